/- Part of the proofs of this seat: walks and plain facts. No condition. -/
import Derived.Test.YtopjaeoklkpcpaaGreatDoorQ0
import Derived.Lib.AppendZeros
import Derived.Lib.AppendZerosOnto
import Derived.Lib.Overlaps
import Derived.Lib.Builder
import Derived.Lib.UnsafeStr
import Derived.Lay
import Derived.LaidHandle
import Derived.Shelf.Slices.Equal
import Derived.Ground.Names2Prog
import Derived.Shelf.Slices.Clone
import Derived.Shelf.Slices.Empties2
import Derived.Test.YtopjaeoklkpcpaaGreatDoorProg
import Derived.Test.YtopjaeoklkpcpaaGreatDoorChecked
import Derived.WalkKit
import Derived.LaidEql
import Derived.Stop.Asserts
import Derived.RowKitTokens
import Derived.Test.YtopjaeoklkpcpaaGreatDoorQ1
namespace Go.Proofs.YtopjaeoklkpcpaaGreatDoor.Jd
open Go.Proofs.Tryz
open Go.RowKit (Below)
set_option linter.unusedVariables false
set_option linter.unusedSimpArgs false
def Ju (a : Option Addr) (k lo c : Nat) : Option Addr := if c = lo then a else a.map fun x => x.add (lo * k)
theorem Sl.off {w : World} {α : Type} {enc : α → List Value} {k : Nat} {a : Option Addr} {xs : List α} (h : Sl w enc k a xs) (lo c : Nat) (hc : xs.length ≤ c) : Sl w enc k (Ju a k lo c) (xs.drop lo) := fun i x hx => by
  rw [List.getElem?_drop] at hx
  have hlt := (List.getElem?_eq_some_iff.1 hx).1
  obtain ⟨b, off, rfl, h2, h3⟩ := h _ _ hx
  refine ⟨b, off + lo * k, ?_, h2, fun j v hv => ?_⟩
  · simp only [Ju]
    rw [if_neg z2, Option.map_some, Bc]
  · have := h3 j v hv
    rw [Nat.add_mul] at this
    rw [show off + lo * k + i * k + j = off + (lo * k + i * k) + j by omega]
    exact this
section
variable {b0 : World} {Mk : List Nat} {B L : Aj} {α : Type} {enc : α → List Value} {k : Nat} {a : Option Addr} {xs : List α}
theorem Bp.off (h : Bp b0 Mk L enc k a xs) (lo c : Nat) (hc : xs.length ≤ c) : Bp b0 Mk L enc k (Ju a k lo c) (xs.drop lo) := fun w hw => (h w hw).off lo c hc
theorem pJ.off (h : pJ b0 B enc k a xs) (lo c : Nat) (hc : xs.length ≤ c) : pJ b0 B enc k (Ju a k lo c) (xs.drop lo) := fun w he hw => (h w he hw).off lo c hc
theorem SH.notIn {w : World} {r : Nat} {o : Obj} {R : Aj} {β : Type} {ys : List β} (h : SH b0 Mk L w) (hp : List.Perm L ((r, o) :: (B ++ R))) : ∀ m ∈ keys B, rP (some (⟨r, 0, none⟩ : Addr)) ys m := fun m hm p hp' _ e => by
  cases hp'
  have hn := (h.perm hp).nd
  simp only [List.map_cons, List.nodup_cons, List.map_append, List.mem_append] at hn
  have e' : m = r := e
  subst e'
  exact hn.1 (.inl hm)
theorem Bi.nd {e : TypeId} {c : Nat} (h : Bi enc k e a c B xs) : (B.map Prod.fst).Nodup := by
  rcases h with ⟨_, rfl, _⟩ | ⟨r, cur, fz, _, rfl, _⟩ <;> simp
end
section
variable {P : Program} {rd : Option Nat} {b0 : World} {Mk : List Nat} {N : Nat} {D : List Deferred} {ops : Array Oper} {L V : Aj} {E : Ew} {T : Act → World → Prop}
variable {op : Op} {ty : TypeId} {pos : String} {after : Array Edge} {d : Nat}
theorem Fw {t e k : TypeId} {x y : Operand} {a : Option Addr} {n c : Nat} {i : Int} {ki : IntKind} (lo m : Nat) (hU : ∀ w, (underlying t).run P w = .ok (.slice e) w) (hS : ∀ w, (sizeOf e).run P w = .ok k w) (hlo : lo ≤ n) (hnc : n ≤ c) (hm : m = n - lo) (hx : ev E x = some (.slice a n c) := by rfl) (hy : ev E y = some (.int ki i) := by rfl) (hi : i = (lo : Int) := by first | rfl | omega) :
    Dl P N D b0 Mk L E (.slice t x (some y) none none) ty (.slice (Ju a k lo c) m (c - lo)) := fun ac w ha _ => by
  subst hi hm
  simp [Gc, execOp, ha.eval hx, ha.eval hy, Instr.sliceAt, hU, Instr.slice, Instr.sliceBounds, Instr.sliceBound, asIntOf, hlo, hS w, Ju]
theorem aG {t e k : TypeId} {x y y2 : Operand} {a : Option Addr} {n c : Nat} {i i2 : Int} {ki ki2 : IntKind} (lo hi m : Nat) (hU : ∀ w, (underlying t).run P w = .ok (.slice e) w) (hS : ∀ w, (sizeOf e).run P w = .ok k w) (hlo : lo ≤ hi) (hhi : hi ≤ c) (hm : m = hi - lo) (hx : ev E x = some (.slice a n c) := by rfl) (hy : ev E y = some (.int ki i) := by rfl) (hy2 : ev E y2 = some (.int ki2 i2) := by rfl) (hi1 : i = (lo : Int) := by first | rfl | omega) (hi2 : i2 = (hi : Int) := by first | rfl | omega) :
    Dl P N D b0 Mk L E (.slice t x (some y) (some y2) none) ty (.slice (Ju a k lo c) m (c - lo)) := fun ac w ha _ => by
  subst hi1 hi2 hm
  simp [Gc, execOp, ha.eval hx, ha.eval hy, ha.eval hy2, Instr.sliceAt, hU, Instr.slice, Instr.sliceBounds, Instr.sliceBound, asIntOf, hlo, hhi, hS w, Ju]
theorem Sn {t e k : TypeId} {x y y2 y3 : Operand} {a : Option Addr} {n c : Nat} {i i2 i3 : Int} {ki ki2 ki3 : IntKind} (lo hi mx m : Nat) (hU : ∀ w, (underlying t).run P w = .ok (.slice e) w) (hS : ∀ w, (sizeOf e).run P w = .ok k w) (hlo : lo ≤ hi) (hhi : hi ≤ mx) (hmx : mx ≤ c) (hm : m = hi - lo) (hx : ev E x = some (.slice a n c) := by rfl) (hy : ev E y = some (.int ki i) := by rfl) (hy2 : ev E y2 = some (.int ki2 i2) := by rfl) (hy3 : ev E y3 = some (.int ki3 i3) := by rfl) (hi1 : i = (lo : Int) := by first | rfl | omega) (hi2 : i2 = (hi : Int) := by first | rfl | omega) (hi3 : i3 = (mx : Int) := by first | rfl | omega) :
    Dl P N D b0 Mk L E (.slice t x (some y) (some y2) (some y3)) ty (.slice (Ju a k lo mx) m (mx - lo)) := fun ac w ha _ => by
  subst hi1 hi2 hi3 hm
  simp [Gc, execOp, ha.eval hx, ha.eval hy, ha.eval hy2, ha.eval hy3, Instr.sliceAt, hU, Instr.slice, Instr.sliceBounds, Instr.sliceBound, asIntOf, hlo, hhi, hmx, hS w, Ju]
theorem zZ {t e : TypeId} {x : Operand} {a : Option Addr} {n c : Nat} (hU : ∀ w, (underlying t).run P w = .ok (.slice e) w) (hx : ev E x = some (.slice a n c) := by rfl) :
    Dl P N D b0 Mk L E (.call { callee := .builtin .cap, args := #[x], argTypes := #[t] }) ty (.int .i64 c) := fun ac w ha _ => by
  simp [Gc, execOp, resolve, invoke, builtin, ha.eval hx, Builtin.cap_, hU, goInt]
theorem iA {α : Type} {enc : α → List Value} {k by_ : Nat} {t e : TypeId} {z : Value} {x y : Operand} {a a' : Option Addr} {c c' dn dc sn : Nat} {B : Aj} {xs ys : List α} (lo q : Nat) (hT : Ty P e k by_ z) (hU : P.underlying t = some (.slice e)) (hE : Dj enc k) (ho : Bi enc k e a c B xs)
    (hs : Bp b0 Mk L enc k a' ys) (hB : ∀ p ∈ B, p ∈ L) (hq : q = min sn dn) (hqy : q ≤ ys.length) (hlo : lo ≤ xs.length) (hc : lo + q ≤ c) (hx : ev E x = some (.slice (Ju a k lo c) dn dc) := by rfl) (hy : ev E y = some (.slice a' sn c') := by rfl) :
    Uy P N D b0 Mk L E (.call { callee := .builtin .copy, args := #[x, y], argTypes := #[t, t] }) ty B Aj (fun _ => .value (.int .i64 q)) (fun h => h) (fun h => Bi enc k e a c h (xs.take lo ++ ys.take q ++ xs.drop (lo + q))) := by
  intro ac w ha hw
  obtain ⟨i, hi, rfl, rfl, hz⟩ := hT.ex
  have Ka : ∀ (v' : Value) (w' : World), (Builtin.copy_ #[t, t] ty #[.slice (Ju a i.size lo c) dn dc, .slice a' sn c']).run P w = .ok v' w' →
      (execOp ac.eval (Gc (.call { callee := .builtin .copy, args := #[x, y], argTypes := #[t, t] }) ty)).run P w = .ok (.value v') w' := fun v' w' h => by
    simp [Gc, execOp, resolve, invoke, builtin, ha.eval hx, ha.eval hy, h]
  have hsl := hs w hw
  have hmin : Nat.min sn dn = q := hq.symm
  have hle : xs.length ≤ c := ho.le'
  by_cases hq0 : q = 0
  · have e0 : xs.take lo ++ ys.take q ++ xs.drop (lo + q) = xs := by rw [hq0]; simp
    rw [e0]
    refine ⟨B, w, Ka _ _ ?_, Tr.refl (fun p hp => hw.own p (hB p hp)) ho.nd, ho⟩
    have hf : ∀ v, (Builtin.firstCells i.size 0 v).run P w = .ok #[] w ∨ True := fun _ => .inr trivial
    rw [hq0] at hmin ⊢
    rcases Ju a i.size lo c with _ | ad <;> rcases a' with _ | ad' <;> simp [Builtin.copy_, run_underlying hU, Builtin.lenOf, Builtin.firstCells, sizeOf, typeInfo, hi, hmin, loadCells, loadCellsFrom, storeCells, goInt]
  · rcases ho with ⟨rfl, rfl, rfl⟩ | ⟨r, cur, fz, rfl, rfl, hfz, h1, h2, h3⟩
    · omega
    · have hh : w.heap[r]? = some (.cells cur e fz) := hw.own _ (hB _ List.mem_cons_self)
      have hyn : (ys.take q).length = q := by rw [List.length_take]; omega
      have hfl : (Ej enc (ys.take q)).length = q * i.size := by rw [Cf hE, hyn]
      have hle2 : lo * i.size + q * i.size ≤ c * i.size := by rw [← Nat.add_mul]; exact Nat.mul_le_mul_right _ hc
      have hst := Fy P r (lo * i.size) e fz (Ej enc (ys.take q)) 0 cur w hh hfz (by rw [hfl]; omega) (Si hE _)
      have hoff : Ju (some (⟨r, 0, none⟩ : Addr)) i.size lo c = some ⟨r, lo * i.size, none⟩ := by
        simp only [Ju]; rw [if_neg z2, Option.map_some, Bc, Nat.zero_add]
      obtain ⟨y0, hy0⟩ : ∃ y0, ys[0]? = some y0 := ⟨_, List.getElem?_eq_getElem z2⟩
      obtain ⟨b1, o1, rfl, _, _⟩ := hsl 0 y0 hy0
      have hl : (loadCells ⟨b1, o1, none⟩ (q * i.size)).run P w = .ok (Ej enc (ys.take q)).toArray w := by
        rw [← hfl]
        exact run_loadCells_list w _ _ (Sl.cells hE hsl q hqy)
      refine ⟨[(r, .cells (cur.toList.take (lo * i.size + 0) ++ Ej enc (ys.take q) ++ cur.toList.drop (lo * i.size + 0 + (Ej enc (ys.take q)).length)).toArray e fz)], _, Ka _ _ ?_, dJ hh, Bi.fullF ?_ ?_ ?_ ?_⟩
      · rw [hoff]
        simp [Builtin.copy_, run_underlying hU, Builtin.lenOf, Builtin.firstCells, sizeOf, typeInfo, hi, hmin, hl, hst, goInt]
      · refine hfz.imp id fun h => Nat.le_trans (Nat.le_of_eq ?_) h
        simp only [List.size_toArray, List.length_append, List.length_take, List.length_drop, Array.length_toList, hfl, h2]; omega
      · simp only [List.length_append, List.length_take, List.length_drop]; omega
      · simp only [List.size_toArray, List.length_append, List.length_take, List.length_drop, Array.length_toList, hfl, h2]; omega
      · have hA : cur.toList.take (lo * i.size) = Ej enc (xs.take lo) := by
          have := congrArg (List.take (lo * i.size)) h3
          rw [List.take_take, Nat.min_eq_left (Nat.mul_le_mul_right _ hlo)] at this
          rw [this]
          have hl : Ej enc xs = Ej enc (xs.take lo) ++ Ej enc (xs.drop lo) := by rw [← Gf, List.take_append_drop]
          rw [hl, List.take_left' (by rw [Cf hE, List.length_take]; congr 1; omega)]
        simp only [List.toList_toArray, Nat.add_zero, hfl]
        rw [hA, Gf, Gf]
        by_cases hlong : lo + q ≤ xs.length
        · have hD : (cur.toList.drop (lo * i.size + q * i.size)).take ((xs.length - (lo + q)) * i.size) = Ej enc (xs.drop (lo + q)) := by
            have := congrArg (List.drop ((lo + q) * i.size)) h3
            rw [List.drop_take, ← Nat.sub_mul] at this
            rw [← Nat.add_mul, this]
            have hl : Ej enc xs = Ej enc (xs.take (lo + q)) ++ Ej enc (xs.drop (lo + q)) := by rw [← Gf, List.take_append_drop]
            rw [hl, List.drop_left' (by rw [Cf hE, List.length_take]; congr 1; omega)]
          have hlen : (xs.take lo ++ ys.take q ++ xs.drop (lo + q)).length * i.size = (Ej enc (xs.take lo) ++ Ej enc (ys.take q)).length + (xs.length - (lo + q)) * i.size := by
            rw [@List.length_append _ (Ej enc (xs.take lo)), hfl, Cf hE]
            simp only [List.length_append, List.length_drop, Nat.add_mul, hyn]
          rw [hlen, List.take_length_add_append, hD]
        · have hd : xs.drop (lo + q) = [] := List.drop_eq_nil_of_le z2
          rw [hd]
          simp only [Ej, List.map_nil, List.flatten_nil, List.append_nil]
          rw [List.take_left' (by
            have h5 : (List.map enc (List.take lo xs)).flatten.length = (xs.take lo).length * i.size := Cf hE _
            have h6 : (List.map enc (List.take q ys)).flatten.length = (ys.take q).length * i.size := Cf hE _
            rw [List.length_append, List.length_append, h5, h6, Nat.add_mul])]
theorem dP {α : Type} {enc : α → List Value} {k by_ : Nat} {t e : TypeId} {z : Value} {x y : Operand} {a a' : Option Addr} {c c' dn dc sn : Nat} {B R : Aj} {xs ys : List α} {l : List Oper} (lo q : Nat) (zs : List α) (hz : xs.take lo ++ ys.take q ++ xs.drop (lo + q) = zs) (hT : Ty P e k by_ z) (hU : P.underlying t = some (.slice e)) (hE : Dj enc k) (ho : Bi enc k e a c B xs) (hL : List.Perm L (B ++ R))
    (hs : Bp b0 Mk L enc k a' ys) (hq : q = min sn dn) (hqy : q ≤ ys.length) (hlo : lo ≤ xs.length) (hc : lo + q ≤ c) (hx : ev E x = some (.slice (Ju a k lo c) dn dc) := by rfl) (hy : ev E y = some (.slice a' sn c') := by rfl) (hd : Nat.blt d N = true := by rfl)
    (kk : ∀ B2, Bi enc k e a c B2 zs → JL P rd b0 Mk N D ops (B2 ++ R) ((d, .int .i64 q) :: E) l T) :
    JL P rd b0 Mk N D ops L E ({ dst := some d, op := .call { callee := .builtin .copy, args := #[x, y], argTypes := #[t, t] }, type := ty, pos := pos, after := after, guard := none } :: l) T :=
  AG4 hL (iA lo q hT hU hE ho hs (fun p hp => hL.mem_iff.2 (List.mem_append_left _ hp)) hq hqy hlo hc hx hy) rfl hd (fun h hh => kk h (hz ▸ hh))
theorem dQ {α : Type} {enc : α → List Value} {k by_ : Nat} {t e : TypeId} {z : Value} {x y : Operand} {a a' : Option Addr} {c c' dn dc sn : Nat} {B R : Aj} {xs ys : List α} {l : List (Bool × Oper)} (lo q : Nat) (zs : List α) (hz : xs.take lo ++ ys.take q ++ xs.drop (lo + q) = zs) (hT : Ty P e k by_ z) (hU : P.underlying t = some (.slice e)) (hE : Dj enc k) (ho : Bi enc k e a c B xs) (hV : List.Perm V (B ++ R))
    (hs : Bp b0 Mk (V ++ L) enc k a' ys) (hq : q = min sn dn) (hqy : q ≤ ys.length) (hlo : lo ≤ xs.length) (hc : lo + q ≤ c) (hx : ev E x = some (.slice (Ju a k lo c) dn dc) := by rfl) (hy : ev E y = some (.slice a' sn c') := by rfl) (hd : Nat.blt d N = true := by rfl)
    (kk : ∀ B2, Bi enc k e a c B2 zs → JD P rd b0 Mk N D ops L (B2 ++ R) ((d, .int .i64 q) :: E) l T) :
    JD P rd b0 Mk N D ops L V E ((false, { dst := some d, op := .call { callee := .builtin .copy, args := #[x, y], argTypes := #[t, t] }, type := ty, pos := pos, after := after, guard := none }) :: l) T :=
  R5 hV (iA lo q hT hU hE ho hs (fun p hp => List.mem_append_left _ (hV.mem_iff.2 (List.mem_append_left _ hp))) hq hqy hlo hc hx hy) rfl hd (fun h hh => kk h (hz ▸ hh))
theorem Sp {α : Type} {enc : α → List Value} {k : Nat} {z : Value} {x0 : α} (hE : Dj enc k) (hz : Db z = enc x0) (n : Nat) : (Builtin.zeroCells z.cells n).toList = Ej enc (List.replicate n x0) := by
  have h := hJ hE hz n
  have hs : z.cells.size = k := by rw [Gm, hz]; simpa using hE.len x0
  have e : Builtin.zeroCells z.cells n = madeCells z.cells (n * k) := by rw [← hs]; rfl
  rw [e, h]
theorem pK {α : Type} {enc : α → List Value} {k by_ : Nat} {t e : TypeId} {z : Value} {x : Operand} {a : Option Addr} {c dn dc : Nat} {B : Aj} {xs : List α} (lo : Nat) {x0 : α} (hT : Ty P e k by_ z) (hZ : ∀ w, (zeroValue e).run P w = .ok z w) (hz0 : Db z = enc x0) (hU : P.underlying t = some (.slice e)) (hE : Dj enc k) (ho : Bi enc k e a c B xs)
    (hB : ∀ p ∈ B, p ∈ L) (hlo : xs.length ≤ lo) (hc : lo + dn ≤ c) (hx : ev E x = some (.slice (Ju a k lo c) dn dc) := by rfl) :
    Uy P N D b0 Mk L E (.call { callee := .builtin .clear, args := #[x], argTypes := #[t] }) ty B Aj (fun _ => .value (.tuple #[])) (fun h => h) (fun h => Bi enc k e a c h xs) := by
  intro ac w ha hw
  obtain ⟨i, hi, rfl, rfl, hz⟩ := hT.ex
  have hzs := hT.zs
  have Ka : ∀ (v' : Value) (w' : World), (Builtin.clear_ #[t] ty #[.slice (Ju a i.size lo c) dn dc]).run P w = .ok v' w' →
      (execOp ac.eval (Gc (.call { callee := .builtin .clear, args := #[x], argTypes := #[t] }) ty)).run P w = .ok (.value v') w' := fun v' w' h => by
    simp [Gc, execOp, resolve, invoke, builtin, ha.eval hx, h]
  by_cases hq0 : dn = 0
  · subst hq0
    refine ⟨B, w, Ka _ _ ?_, Tr.refl (fun p hp => hw.own p (hB p hp)) ho.nd, ho⟩
    rcases Ju a i.size lo c with _ | ad <;> simp [Builtin.clear_, run_underlying hU]
  · rcases ho with ⟨rfl, rfl, rfl⟩ | ⟨r, cur, fz, rfl, rfl, hfz, h1, h2, h3⟩
    · omega
    · have hh : w.heap[r]? = some (.cells cur e fz) := hw.own _ (hB _ List.mem_cons_self)
      have hle2 : lo * i.size + dn * i.size ≤ c * i.size := by rw [← Nat.add_mul]; exact Nat.mul_le_mul_right _ hc
      have hzl : (Builtin.zeroCells z.cells dn).toList.length = dn * i.size := by rw [bM, hzs]
      have hz1 : ∀ v ∈ (Builtin.zeroCells z.cells dn).toList, v.oneCell' = true := fun v hv => by
        rw [Sp hE hz0 dn] at hv
        exact Si hE _ v hv
      have hst := Fy P r (lo * i.size) e fz (Builtin.zeroCells z.cells dn).toList 0 cur w hh hfz (by rw [hzl]; omega) hz1
      have hoff : Ju (some (⟨r, 0, none⟩ : Addr)) i.size lo c = some ⟨r, lo * i.size, none⟩ := by
        simp only [Ju]; rw [if_neg z2, Option.map_some, Bc, Nat.zero_add]
      refine ⟨[(r, .cells (cur.toList.take (lo * i.size + 0) ++ (Builtin.zeroCells z.cells dn).toList ++ cur.toList.drop (lo * i.size + 0 + (Builtin.zeroCells z.cells dn).toList.length)).toArray e fz)], _, Ka _ _ ?_, dJ hh, Bi.fullF ?_ h1 ?_ ?_⟩
      · rw [hoff]
        cases dn with
        | zero => exact absurd rfl hq0
        | succ dn => simp [Builtin.clear_, run_underlying hU, hZ, hst]
      · refine hfz.imp id fun h => Nat.le_trans (Nat.le_of_eq ?_) h
        simp only [List.size_toArray, List.length_append, List.length_take, List.length_drop, Array.length_toList, hzl, h2]; omega
      · simp only [List.size_toArray, List.length_append, List.length_take, List.length_drop, Array.length_toList, hzl, h2]; omega
      · have hm : xs.length * i.size ≤ lo * i.size := Nat.mul_le_mul_right _ hlo
        simp only [List.toList_toArray, Nat.add_zero]
        have hm2 : xs.length * i.size ≤ (List.take (lo * i.size) cur.toList).length := by
          rw [List.length_take]
          have : cur.toList.length = c * i.size := by simpa using h2
          omega
        rw [List.append_assoc, List.take_append_of_le_length hm2, List.take_take, Nat.min_eq_left hm, h3]
theorem aH {α : Type} {enc : α → List Value} {k by_ : Nat} {t e : TypeId} {z : Value} {x : Operand} {a : Option Addr} {c dn dc : Nat} {B R : Aj} {xs : List α} {l : List Oper} (lo : Nat) {x0 : α} (hT : Ty P e k by_ z) (hZ : ∀ w, (zeroValue e).run P w = .ok z w) (hz0 : Db z = enc x0) (hU : P.underlying t = some (.slice e)) (hE : Dj enc k) (ho : Bi enc k e a c B xs) (hL : List.Perm L (B ++ R))
    (hlo : xs.length ≤ lo) (hc : lo + dn ≤ c) (hx : ev E x = some (.slice (Ju a k lo c) dn dc) := by rfl) 
    (kk : ∀ B2, Bi enc k e a c B2 xs → JL P rd b0 Mk N D ops (B2 ++ R) E l T) :
    JL P rd b0 Mk N D ops L E ({ dst := none, op := .call { callee := .builtin .clear, args := #[x], argTypes := #[t] }, type := ty, pos := pos, after := after, guard := none } :: l) T := by
  intro ac w ha hw
  unfold Nt
  rw [if_pos (by rfl)]
  obtain ⟨h, w', h1, h2, h3⟩ := pK (ty := ty) lo hT hZ hz0 hU hE ho (fun p hp => hL.mem_iff.2 (List.mem_append_left _ hp)) hlo hc hx ac w ha hw
  have hE2 : Dg N D E (ac.put none (.tuple #[])) := ha
  exact Cz (o := { dst := none, op := .call { callee := .builtin .clear, args := #[x], argTypes := #[t] }, type := ty, pos := pos, after := after, guard := none }) rfl J6 (kk h h3 _ _ hE2 ((hw.perm hL).tr h2))
theorem pL {α : Type} {enc : α → List Value} {k by_ : Nat} {t e : TypeId} {z : Value} {x y : Operand} {a a' : Option Addr} {c c' n m : Nat} {B : Aj} {xs ys : List α} (hT : Ty P e k by_ z) (hU : P.underlying t = some (.slice e)) (hE : Dj enc k) (ho : Bi enc k e a c B xs)
    (hs : Bp b0 Mk L enc k a' ys) (hB : ∀ p ∈ B, p ∈ L) (hn : xs.length = n) (hm : ys.length = m) (hroom : n + m ≤ c) (hx : ev E x = some (.slice a n c) := by rfl) (hy : ev E y = some (.slice a' m c') := by rfl) :
    Uy P N D b0 Mk L E (.call { callee := .builtin .append, args := #[x, y], argTypes := #[t, t] }) ty B Aj (fun _ => .value (.slice a (n + m) c)) (fun q => q) (fun q => Bi enc k e a c q (xs ++ ys)) := by
  intro ac w ha hw
  obtain ⟨i, hi, rfl, rfl, hz⟩ := hT.ex
  subst hn hm
  have Ka : ∀ (v' : Value) (w' : World), (Builtin.append_ #[t, t] ty #[.slice a xs.length c, .slice a' ys.length c']).run P w = .ok v' w' →
      (execOp ac.eval (Gc (.call { callee := .builtin .append, args := #[x, y], argTypes := #[t, t] }) ty)).run P w = .ok (.value v') w' := fun v' w' h => by
    simp [Gc, execOp, resolve, invoke, builtin, ha.eval hx, ha.eval hy, h]
  have hsl := hs w hw
  by_cases hy0 : ys = []
  · subst hy0
    have hrun : (Builtin.append_ #[t, t] ty #[.slice a xs.length c, .slice a' 0 c']).run P w = .ok (.slice a xs.length c) w := by
      have hf : (Builtin.firstCells i.size 0 (.slice a' 0 c')).run P w = .ok #[] w := by
        cases a' with
        | none => simp [Builtin.firstCells]
        | some q => simp [Builtin.firstCells, loadCells, loadCellsFrom]
      have hle' : xs.length ≤ c := by simpa using hroom
      rcases a with _ | ad
      · simp [Builtin.append_, run_underlying hU, sizeOf, typeInfo, hi, Builtin.lenOf, hf, hle']
      · simp [Builtin.append_, run_underlying hU, sizeOf, typeInfo, hi, Builtin.lenOf, hf, hle', storeCells]
    exact ⟨B, w, Ka _ _ (by simpa using hrun), Tr.refl (fun p hp => hw.own p (hB p hp)) ho.nd, by simpa using ho⟩
  · have hpos : 0 < ys.length := List.length_pos_iff.2 hy0
    obtain ⟨y0, hy0'⟩ : ∃ y0, ys[0]? = some y0 := ⟨_, List.getElem?_eq_getElem hpos⟩
    obtain ⟨b1, off1, rfl, _, _⟩ := hsl 0 y0 hy0'
    have hnews := Sl.cells hE hsl ys.length (Nat.le_refl _)
    rw [List.take_length] at hnews
    have hnl : (Ej enc ys).length = ys.length * i.size := Cf hE ys
    rcases ho with ⟨rfl, rfl, rfl⟩ | ⟨r, cur, fz, rfl, rfl, hfz, h1, h2, h3⟩
    · omega
    · have hh : w.heap[r]? = some (.cells cur e fz) := hw.own _ (hB _ List.mem_cons_self)
      have hr := Pw (P := P) (w := w) (ty := ty) t e i hU hi r xs.length c cur fz hh hfz ⟨b1, off1, none⟩ ys.length c' (Ej enc ys) hnl hnews (Si hE ys) hroom (by rw [hnl, h2, ← Nat.add_mul]; exact Nat.mul_le_mul_right _ hroom)
      have hle : xs.length * i.size + ys.length * i.size ≤ c * i.size := by rw [← Nat.add_mul]; exact Nat.mul_le_mul_right _ hroom
      refine ⟨[(r, _)], _, Ka _ _ hr, dJ hh, Bi.fullF ?_ (by simpa using hroom) ?_ ?_⟩
      · refine hfz.imp id fun h => Nat.le_trans (Nat.le_of_eq ?_) h
        simp only [List.size_toArray, List.length_append, List.length_take, List.length_drop, Array.length_toList, hnl, h2]
        omega
      · simp only [List.size_toArray, List.length_append, List.length_take, List.length_drop, Array.length_toList, hnl, h2]
        omega
      · have hle3 : xs.length * i.size ≤ c * i.size := Nat.mul_le_mul_right _ h1
        have e1 : (cur.toList.take (xs.length * i.size)).length = xs.length * i.size := by simp [h2, Nat.min_eq_left hle3]
        simp only [List.toList_toArray, List.length_append, Nat.add_mul]
        rw [List.take_left' (by rw [List.length_append, e1, hnl]), h3, Gf]
theorem aI {α : Type} {enc : α → List Value} {kk by_ : Nat} {t e : TypeId} {z : Value} {x y : Operand} {a a' : Option Addr} {c c' n m : Nat} {B R : Aj} {xs ys : List α} {l : List (Bool × Oper)} (zs : List α) (hz : xs ++ ys = zs) (hT : Ty P e kk by_ z) (hU : P.underlying t = some (.slice e)) (hE : Dj enc kk) (ho : Bi enc kk e a c B xs) (hV : List.Perm V (B ++ R))
    (hs : Bp b0 Mk (V ++ L) enc kk a' ys) (hroom : n + m ≤ c) (hx : ev E x = some (.slice a n c) := by rfl) (hy : ev E y = some (.slice a' m c') := by rfl) (hn : xs.length = n := by rfl) (hm : ys.length = m := by rfl) (hd : Nat.blt d N = true := by rfl) (hzl : n + m = zs.length := by simp)
    (k : ∀ B2, Bi enc kk e a c B2 zs → JD P rd b0 Mk N D ops L (B2 ++ R) ((d, .slice a zs.length c) :: E) l T) :
    JD P rd b0 Mk N D ops L V E ((false, { dst := some d, op := .call { callee := .builtin .append, args := #[x, y], argTypes := #[t, t] }, type := ty, pos := pos, after := after, guard := none }) :: l) T :=
  R5 hV (pL hT hU hE ho hs (fun p hp => List.mem_append_left _ (hV.mem_iff.2 (List.mem_append_left _ hp))) hn hm hroom hx hy) rfl hd (fun q hq => by rw [hzl]; exact k q (hz ▸ hq))
theorem uM {α : Type} {enc : α → List Value} {k by_ : Nat} {t tn e : TypeId} {z : Value} {x0 : α} {x y : Operand} {a : Option Addr} {c n m : Nat} {i : Int} {xs : List α} {kn : IntKind} (hT : Ty P e k by_ z) (hU : P.underlying t = some (.slice e)) (hN : P.underlying tn = some (.int kn)) (hE : Dj enc k) (hz : Db z = enc x0)
    (hs : Bp b0 Mk L enc k a xs) (hn : xs.length = n) (h0 : 0 < m) (hg : c < n + m) (hb : 2 * (n + m) * by_ ≤ 281474976710656) (hb2 : n + m ≤ 4611686018427387904) (hi : i = (m : Int)) (hx : ev E x = some (.slice a n c) := by rfl) (hy : ev E y = some (.int .i64 i) := by rfl) :
    Uy P N D b0 Mk L E (.call { callee := .builtin .append, args := #[x, y], argTypes := #[t, tn] }) ty [] (Option Addr × Nat × Aj) (fun q => .value (.slice q.1 (n + m) q.2.1)) (fun q => q.2.2) (fun q => Bi enc k e q.1 q.2.1 q.2.2 (xs ++ List.replicate m x0)) := by
  intro ac w ha hw
  obtain ⟨i, hi, rfl, rfl, hzz⟩ := hT.ex
  subst hn
  rename_i hi'
  have hzs := hT.zs
  have hk := hE.pos
  subst hi'
  have Ka : ∀ (v' : Value) (w' : World), (Builtin.append_ #[t, tn] ty #[.slice a xs.length c, .int .i64 m]).run P w = .ok v' w' →
      (execOp ac.eval (Gc (.call { callee := .builtin .append, args := #[x, y], argTypes := #[t, tn] }) ty)).run P w = .ok (.value v') w' := fun v' w' h => by
    simp [Gc, execOp, resolve, invoke, builtin, ha.eval hx, ha.eval hy, h]
  have hsl := hs w hw
  have hnx : Builtin.nextslicecap (xs.length + m) c ≤ 2 * (xs.length + m) := nextslicecap_le hg
  have holds : (Builtin.firstCells i.size xs.length (.slice a xs.length c)).run P w.drew = .ok (Ej enc xs).toArray w.drew := by
    by_cases hx0 : xs = []
    · subst hx0
      rcases a with _ | ad <;> simp [Builtin.firstCells, loadCells, loadCellsFrom, Ej]
    · obtain ⟨y0, hy0⟩ : ∃ y0, xs[0]? = some y0 := ⟨_, List.getElem?_eq_getElem (List.length_pos_iff.2 hx0)⟩
      obtain ⟨b1, o1, rfl, _, _⟩ := hsl 0 y0 hy0
      have h5 := Sl.cells hE hsl xs.length (Nat.le_refl _)
      rw [List.take_length] at h5
      have : ∀ j v, (Ej enc xs)[j]? = some v → w.drew.cell? ((⟨b1, o1, none⟩ : Addr).add j) = some v := fun j v hj => h5 j v hj
      exact run_firstCells_some (P := P) w.drew i.size xs.length _ xs.length c (Ej enc xs) (Cf hE xs) this
  have hbm : m * i.bytes ≤ 281474976710656 := by
    have : m * i.bytes ≤ 2 * (xs.length + m) * i.bytes := Nat.mul_le_mul_right _ z2
    omega
  have hr := Lib.run_append_grow_zeros (P := P) w t tn ty e i z .i64 kn hU hN hi hzz a xs.length c (Ej enc xs) holds m h0 hk hg z2 hbm (Nat.le_trans (Nat.mul_le_mul_right _ hnx) hb)
  refine ⟨(some ⟨w.heap.size, 0, none⟩, grownCap w (xs.length + m) c e, [(w.heap.size, _)]), _, Ka _ _ hr, bW (Sj (w := w.drew) _), ?_⟩
  · have hge := grownCap_ge w (xs.length + m) c e
    refine Bi.full hE (by simpa using hge) ?_ ?_
    · rw [Array.size_append, Array.size_append, List.size_toArray, Cf hE, size_zeroCells, size_zeroCells, hzs, ← Nat.add_mul, ← Nat.add_mul]
      dsimp only
      congr 1
      omega
    · simp only [Array.toList_append, List.toList_toArray]
      rw [Sp hE hz m, List.take_left' (by rw [List.length_append, Cf hE, Cf hE, List.length_append, Nat.add_mul]), Gf]
theorem dR {α : Type} {enc : α → List Value} {kk by_ : Nat} {t tn e : TypeId} {z : Value} {x0 : α} {x y : Operand} {a : Option Addr} {c n m : Nat} {i : Int} {xs : List α} {kn : IntKind} {l : List Oper} (hT : Ty P e kk by_ z) (hU : P.underlying t = some (.slice e)) (hN : P.underlying tn = some (.int kn)) (hE : Dj enc kk) (hz : Db z = enc x0)
    (hs : Bp b0 Mk L enc kk a xs) (hn : xs.length = n) (h0 : 0 < m) (hg : c < n + m) (hb : 2 * (n + m) * by_ ≤ 281474976710656 ∧ n + m ≤ 4611686018427387904) (hi : i = (m : Int)) (hx : ev E x = some (.slice a n c) := by rfl) (hy : ev E y = some (.int .i64 i) := by rfl) (hd : Nat.blt d N = true := by rfl)
    (k : ∀ a2 c2 B2, Bi enc kk e a2 c2 B2 (xs ++ List.replicate m x0) → JL P rd b0 Mk N D ops (B2 ++ L) ((d, .slice a2 (xs ++ List.replicate m x0).length c2) :: E) l T) :
    JL P rd b0 Mk N D ops L E ({ dst := some d, op := .call { callee := .builtin .append, args := #[x, y], argTypes := #[t, tn] }, type := ty, pos := pos, after := after, guard := none } :: l) T :=
  AG4 (List.Perm.refl _) (uM hT hU hN hE hz hs hn h0 hg hb.1 hb.2 hi hx hy) rfl hd (fun q hq => by
    have := k q.1 q.2.1 q.2.2 hq
    rwa [List.length_append, List.length_replicate, hn] at this)
end
end Go.Proofs.YtopjaeoklkpcpaaGreatDoor.Jd

namespace Go.Proofs.YtopjaeoklkpcpaaGreatDoor.Jd
open Go.Proofs.Tryz
open Go.RowKit (Below)
set_option linter.unusedVariables false
set_option linter.unusedSimpArgs false
theorem lb {p : Prop} (h : p := by first | omega | (simp only [List.length_append, List.length_take, List.length_drop, List.length_set, List.length_replicate, List.length_cons, List.length_nil, List.length_map, Cq, Cp]; omega) | (simp only [List.length_append, List.length_take, List.length_drop, List.length_set, List.length_replicate, List.length_cons, List.length_nil, List.length_map, Cq, Cp] at *; omega)) : p := h
theorem ix {p : Prop} (h : p := by first | omega | (simp only [List.length_set]; omega) | (simp only [List.length_append, List.length_take, List.length_drop, List.length_set, List.length_replicate, List.length_cons, List.length_nil, List.length_map, Cq, Cp]; omega)) : p := h
theorem se {E E' : Ew} (h : Jw E E' := by repeat (first | exact Jw.nil | refine Jw.cons rfl ?_)) : Jw E E' := h
theorem me {α : Type} {p : α} {l : List α} (h : p ∈ l := by repeat (first | exact List.mem_cons_self | apply List.mem_cons_of_mem | apply List.mem_append_right)) : p ∈ l := h
theorem q0 {l : Aj} : List.Perm l l := List.Perm.refl _
theorem qa {x a : Nat × Obj} {t r : Aj} (p : List.Perm t (a :: r)) : List.Perm (x :: t) (a :: x :: r) := (List.Perm.cons _ p).trans (List.Perm.swap _ _ _)
theorem qb {x : Nat × Obj} {t r S : Aj} (p : List.Perm t (S ++ r)) : List.Perm (x :: t) (S ++ (x :: r)) := (List.Perm.cons _ p).trans List.perm_middle.symm
theorem qc {a : Nat × Obj} {t r S : Aj} (p : List.Perm t (a :: r)) : List.Perm (S ++ t) (a :: (S ++ r)) := (List.Perm.append_left _ p).trans List.perm_middle
theorem qd {t r S U : Aj} (p : List.Perm t (U ++ r)) : List.Perm (S ++ t) (U ++ (S ++ r)) := (List.Perm.append_left _ p).trans (zK _ _ _)
section
variable {P : Program} {rd : Option Nat} {b0 : World} {Mk : List Nat} {N : Nat} {D : List Deferred} {ops : Array Oper} {L V : Aj} {E : Ew} {T : Act → World → Prop}
variable {op : Op} {ty : TypeId} {pos : String} {after : Array Edge} {d : Nat}
theorem Oc {κ : Type} [DecidableEq κ] {kd : TypeDesc} {enc : κ → Value} {t kt et : TypeId} {x y : Operand} {r ck : Nat} {es : Array MapEntry} {l : List (κ × Value)} {z v : Value} (q : κ) (hk : Px kd enc) (hU : ∀ w, (underlying t).run P w = .ok (.map kt et) w) (hK : ∀ w, (underlying kt).run P w = .ok kd w)
    (hz : ∀ w, (zeroValue et).run P w = .ok z w) (hes : Mz enc es l) (hv : (Oa l q).getD z = v) (hx : ev E x = some (.map (some r)) := by rfl) (hy : ev E y = some (enc q) := by rfl)
    (hm : (r, Obj.map es ck) ∈ L := by repeat (first | exact List.mem_cons_self | apply List.mem_cons_of_mem | apply List.mem_append_right)) :
    Dl P N D b0 Mk L E (.lookup t x y false) ty v := hv ▸ mJ q hk hU hK hz hes hx hy hm
theorem AR9 {κ : Type} [DecidableEq κ] {kd : TypeDesc} {enc : κ → Value} {t kt et : TypeId} {x y u : Operand} {r ck : Nat} {es : Array MapEntry} {l : List (κ × Value)} {v : Value} (q : κ) (hk : Px kd enc) (hU : ∀ w, (underlying t).run P w = .ok (.map kt et) w) (hK : ∀ w, (underlying kt).run P w = .ok kd w)
    (hes : Mz enc es l) (hnew : ∀ p ∈ l, p.1 ≠ q) (hx : ev E x = some (.map (some r)) := by rfl) (hy : ev E y = some (enc q) := by rfl) (hu : ev E u = some v := by rfl)
    (hm : (r, Obj.map es ck) ∈ L := by repeat (first | exact List.mem_cons_self | apply List.mem_cons_of_mem | apply List.mem_append_right)) :
    Uy P N D b0 Mk L E (.insert t x y u) ty [(r, .map es ck)] (Array MapEntry × Nat) (fun _ => .skip) (fun x => [(r, .map x.1 x.2)]) (fun x => Mz enc x.1 (l ++ [(q, v)])) := fun a w ha hw => by
  obtain ⟨x, w', h1, h2, h3⟩ := zI (ty := ty) q hk hU hK hes hnew hx hy hu hm a w ha hw
  exact ⟨x, w', h1, h2, h3⟩
theorem Sq {κ : Type} [DecidableEq κ] {kd : TypeDesc} {enc : κ → Value} {t kt et : TypeId} {x y u : Operand} {r ck : Nat} {es : Array MapEntry} {ml : List (κ × Value)} {v : Value} {R : Aj} {l : List Oper} (q : κ) (hk : Px kd enc) (hU : ∀ w, (underlying t).run P w = .ok (.map kt et) w) (hK : ∀ w, (underlying kt).run P w = .ok kd w)
    (hes : Mz enc es ml) (hnew : ∀ p ∈ ml, p.1 ≠ q) (hL : List.Perm L ((r, Obj.map es ck) :: R)) (hx : ev E x = some (.map (some r)) := by rfl) (hy : ev E y = some (enc q) := by rfl) (hu : ev E u = some v := by rfl)
    (k : ∀ es2 ck2, Mz enc es2 (ml ++ [(q, v)]) → JL P rd b0 Mk N D ops ((r, Obj.map es2 ck2) :: R) E l T) :
    JL P rd b0 Mk N D ops L E ({ dst := none, op := .insert t x y u, type := ty, pos := pos, after := after, guard := none } :: l) T :=
  zE (H := [(r, Obj.map es ck)]) hL (AR9 q hk hU hK hes hnew hx hy hu (hL.mem_iff.2 List.mem_cons_self)) rfl (fun x hq => k x.1 x.2 hq)
theorem A0 {l : List Oper} {n f' : Nat} {listed : Array Bool} {i : Nat} {f : FuncId} {args : List Value} {R : World → Ending → World → Prop} (hi : l[i]? = some { dst := some d, op := op, type := ty, pos := pos, after := after, guard := none }) (hc : Mu P N D b0 Mk L E op ty f args)
    (h : ∀ w, SH b0 Mk L w → Calls P f args.toArray w (R w)) (hn : Be op = true := by rfl) (hd : Nat.blt d N = true := by rfl)
    (k : ∀ w e w', SH b0 Mk L w → R w e w' → ∃ v B V', e = .returned v ∧ Dh w w' B ∧ V' = B ++ V ∧ JG P rd b0 Mk N D l n f' (listed.setIfInBounds i true) L V' ((d, v) :: E) T) : JO P rd b0 Mk N D l n f' listed L V E T i := by
  intro hg inv a w ha hw
  have hi' : l.toArray[i]? = some { dst := some d, op := op, type := ty, pos := pos, after := after, guard := none } := by simpa using hi
  unfold wpO
  simp only [hi']
  rw [if_pos (by rfl)]
  refine Dt (Bd hn) X9 ((h w hw.right).mono fun e w' he => ?_)
  obtain ⟨v, B, V', rfl, h2, rfl, h3⟩ := k w e w' hw.right he
  have h4 : SH b0 Mk ((B ++ V) ++ L) w' := by rw [List.append_assoc]; exact hw.fresh h2
  exact ⟨_, rfl, SH b0 Mk L, fun y hy => hy, h4.right, h3 hg inv _ _ (ha.put hd _) h4⟩
theorem AU8 {l : List Oper} {n f' : Nat} {listed : Array Bool} {i : Nat} {f : FuncId} {args : List Value} {R : World → Ending → World → Prop} (hi : l[i]? = some { dst := some d, op := op, type := ty, pos := pos, after := after, guard := none }) (hc : Mu P N D b0 Mk L E op ty f args)
    (h : ∀ w, SH b0 Mk (V ++ L) w → Calls P f args.toArray w (R w)) (hn : Be op = true := by rfl) (hd : Nat.blt d N = true := by rfl)
    (k : ∀ w e w', SH b0 Mk (V ++ L) w → R w e w' → ∃ v V', e = .returned v ∧ SH b0 Mk (V' ++ L) w' ∧ JG P rd b0 Mk N D l n f' (listed.setIfInBounds i true) L V' ((d, v) :: E) T) : JO P rd b0 Mk N D l n f' listed L V E T i := by
  intro hg inv a w ha hw
  have hi' : l.toArray[i]? = some { dst := some d, op := op, type := ty, pos := pos, after := after, guard := none } := by simpa using hi
  unfold wpO
  simp only [hi']
  rw [if_pos (by rfl)]
  refine Dt (Bd hn) X9 ((h w hw).mono fun e w' he => ?_)
  obtain ⟨v, V', rfl, h2, h3⟩ := k w e w' hw he
  exact ⟨_, rfl, SH b0 Mk L, fun y hy => hy, h2.right, h3 hg inv _ _ (ha.put hd _) h2⟩
theorem AS0 {l : List Oper} {n f' : Nat} {listed : Array Bool} {i : Nat} {H R : Aj} {X : Type} {v : X → Value} {H' : X → Aj} {Pr : X → Prop} (hi : l[i]? = some { dst := some d, op := op, type := ty, pos := pos, after := after, guard := none })
    (hV : List.Perm V (H ++ R)) (h : Uy P N D b0 Mk (V ++ L) E op ty H X (fun x => .value (v x)) H' Pr) (hn : Be op = true := by rfl) (hd : Nat.blt d N = true := by rfl)
    (k : ∀ x, Pr x → JG P rd b0 Mk N D l n f' (listed.setIfInBounds i true) L (H' x ++ R) ((d, v x) :: E) T) : JO P rd b0 Mk N D l n f' listed L V E T i := by
  intro hg inv a w ha hw
  have hi' : l.toArray[i]? = some { dst := some d, op := op, type := ty, pos := pos, after := after, guard := none } := by simpa using hi
  unfold wpO
  simp only [hi']
  rw [if_pos (by rfl)]
  obtain ⟨x, w', h1, h2, h3⟩ := h a w ha hw
  have h4 : SH b0 Mk ((H' x ++ R) ++ L) w' := by
    rw [List.append_assoc]
    exact (hw.perm (by rw [← List.append_assoc]; exact List.Perm.append_right _ hV)).tr h2
  exact Cz (Bd hn) J6 ⟨SH b0 Mk L, fun y hy => hy, h4.right, k x h3 hg inv _ _ (ha.put hd _) h4⟩
theorem Qj {α : Type} {enc : α → List Value} {kk by_ : Nat} {t e : TypeId} {z : Value} {x y : Operand} {a a' : Option Addr} {c c' n m : Nat} {B R : Aj} {xs ys : List α} {l : List Oper} {n' f' : Nat} {listed : Array Bool} {i : Nat} (hi : l[i]? = some { dst := some d, op := .call { callee := .builtin .append, args := #[x, y], argTypes := #[t, t] }, type := ty, pos := pos, after := after, guard := none }) (zs : List α) (hz : xs ++ ys = zs) (hT : Ty P e kk by_ z) (hU : P.underlying t = some (.slice e)) (hE : Dj enc kk) (ho : Bi enc kk e a c B xs) (hV : List.Perm V (B ++ R))
    (hs : Bp b0 Mk (V ++ L) enc kk a' ys) (hb : 2 * (n + m) * by_ ≤ 281474976710656 ∧ n + m ≤ 4611686018427387904) (hx : ev E x = some (.slice a n c) := by rfl) (hy : ev E y = some (.slice a' m c') := by rfl) (hn : xs.length = n := by rfl) (hm : ys.length = m := by rfl) (hd : Nat.blt d N = true := by rfl) (hzl : n + m = zs.length := by simp)
    (k : ∀ a2 c2 B2, Bi enc kk e a2 c2 B2 zs → JG P rd b0 Mk N D l n' f' (listed.setIfInBounds i true) L (B2 ++ R) ((d, .slice a2 zs.length c2) :: E) T) : JO P rd b0 Mk N D l n' f' listed L V E T i :=
  AS0 hi hV (dK hT hU hE ho hs (fun p hp => List.mem_append_left _ (hV.mem_iff.2 (List.mem_append_left _ hp))) hn hm hb.1 hb.2 hx hy) rfl hd (fun q hq => by rw [hzl]; exact k q.1 q.2.1 q.2.2 (hz ▸ hq))
end
theorem Jg {κ : Type} [DecidableEq κ] {k q : κ} {v : Value} {l : List (κ × Value)} (h : k = q) : Oa ((k, v) :: l) q = some v := by simp [Oa, h]
theorem Bx {κ : Type} [DecidableEq κ] {k q : κ} {v : Value} {l : List (κ × Value)} (h : ¬ k = q) : Oa ((k, v) :: l) q = Oa l q := by simp [Oa, h]
def Py {α : Type} (xs : List α) (i : Nat) (v : α) : List α := xs.take i ++ v :: xs.drop i
theorem Gq {α : Type} {xs : List α} {i : Nat} {v : α} (h : i ≤ xs.length) : (Py xs i v).length = xs.length + 1 := by
  simp [Py]; omega
theorem A1 {α : Type} (xs : List α) (v : α) : xs ++ [v] = Py xs xs.length v := by simp [Py]
def delL {α : Type} (xs : List α) (i j : Nat) : List α := xs.take i ++ xs.drop j
theorem Gr {α : Type} {xs : List α} {i j : Nat} (h : i ≤ j) (hj : j ≤ xs.length) : (delL xs i j).length = xs.length - (j - i) := by
  simp [delL]; omega
end Go.Proofs.YtopjaeoklkpcpaaGreatDoor.Jd

namespace Go.Proofs.YtopjaeoklkpcpaaGreatDoor.Jd
open Go.Proofs.Tryz
open Go.RowKit (Below)
set_option linter.unusedVariables false
set_option linter.unusedSimpArgs false
def kE {α β : Type} (D : World → α → β → Prop) : Prop := ∀ w w' x t, (∀ p v, w.cell? p = some v → w'.cell? p = some v) → D w x t → D w' x t
def Rm (w : World) {α β : Type} [Inhabited α] [Inhabited β] (enc : α × β → List Value) (k : Nat) (D : World → α → β → Prop) (a : Option Addr) (xs : List α) (ts : List β) : Prop :=
  ts.length = xs.length ∧ Sl w enc k a (List.zip xs ts) ∧ ∀ i, i < xs.length → D w (xs.getD i default) (ts.getD i default)
def Ds (b0 : World) (Mk : List Nat) (L : Aj) {α β : Type} [Inhabited α] [Inhabited β] (enc : α × β → List Value) (k : Nat) (D : World → α → β → Prop) (a : Option Addr) (xs : List α) (ts : List β) : Prop :=
  ts.length = xs.length ∧ ∀ w, SH b0 Mk L w → Rm w enc k D a xs ts
def Sr (b0 : World) (B : Aj) {α β : Type} [Inhabited α] [Inhabited β] (enc : α × β → List Value) (k : Nat) (D : World → α → β → Prop) (a : Option Addr) (xs : List α) (ts : List β) : Prop :=
  ts.length = xs.length ∧ ∀ w, jT b0 w → (∀ p ∈ B, w.heap[p.1]? = some p.2) → Rm w enc k D a xs ts
def Cx (B : Aj) {α β : Type} [Inhabited α] [Inhabited β] (enc : α × β → List Value) (k : Nat) (D : World → α → β → Prop) (a : Option Addr) (xs : List α) (ts : List β) : Prop :=
  ts.length = xs.length ∧ ∀ w : World, (∀ p ∈ B, w.heap[p.1]? = some p.2) → Rm w enc k D a xs ts
def Bs (B : Aj) {α β : Type} [Inhabited α] [Inhabited β] (D : World → α → β → Prop) (xs : List α) (ts : List β) : Prop :=
  ts.length = xs.length ∧ ∀ w : World, (∀ p ∈ B, w.heap[p.1]? = some p.2) → ∀ i, i < xs.length → D w (xs.getD i default) (ts.getD i default)
theorem uN {w w' : World} (he : jT w w') : ∀ p v, w.cell? p = some v → w'.cell? p = some v := fun p v h => Qi h (he.block _ (World.block_lt_of_cell? w _ h))
theorem Cv {α β : Type} [Inhabited α] [Inhabited β] {xs : List α} {ts : List β} {m : Nat} (hl : ts.length = xs.length) (h : m < xs.length) : (List.zip xs ts)[m]? = some (xs.getD m default, ts.getD m default) := by
  rw [List.getD_eq_getElem?_getD, List.getD_eq_getElem?_getD, List.getElem?_eq_getElem h, List.getElem?_eq_getElem (show m < ts.length by omega), List.getElem?_eq_getElem (by rw [List.length_zip]; omega)]
  simp
theorem Br {α β : Type} {xs : List α} {ts : List β} (hl : ts.length = xs.length) : (List.zip xs ts).length = xs.length := by rw [List.length_zip]; omega
theorem Qk {α : Type} [Inhabited α] {xs : List α} {i n : Nat} (h : i < n) : (xs.take n).getD i default = xs.getD i default := by
  rw [List.getD_eq_getElem?_getD, List.getD_eq_getElem?_getD, List.getElem?_take, if_pos h]
theorem Ql {α : Type} [Inhabited α] {xs : List α} {i n : Nat} : (xs.drop n).getD i default = xs.getD (n + i) default := by
  rw [List.getD_eq_getElem?_getD, List.getD_eq_getElem?_getD, List.getElem?_drop]
theorem Xz {α : Type} [Inhabited α] {xs ys : List α} {i : Nat} : (xs ++ ys).getD i default = if i < xs.length then xs.getD i default else ys.getD (i - xs.length) default := by
  simp only [List.getD_eq_getElem?_getD]
  by_cases h : i < xs.length
  · rw [if_pos h, List.getElem?_append_left h]
  · rw [if_neg h, List.getElem?_append_right z2]
section
variable {α β : Type} [Inhabited α] [Inhabited β] {enc : α × β → List Value} {k : Nat} {D : World → α → β → Prop} {a : Option Addr} {xs : List α} {ts : List β} {b0 : World} {Mk : List Nat} {B L : Aj}
theorem Rm.ext {w w' : World} (hD : kE D) (h : Rm w enc k D a xs ts) (he : jT w w') : Rm w' enc k D a xs ts := ⟨h.1, h.2.1.ext he, fun i hi => hD _ _ _ _ (uN he) (h.2.2 i hi)⟩
theorem Ds.of_base (hD : kE D) (h : Rm b0 enc k D a xs ts) : Ds b0 [] L enc k D a xs ts := ⟨h.1, fun _ hw => h.ext hD hw.ext_out⟩
theorem Sr.base (hD : kE D) (h : Rm b0 enc k D a xs ts) : Sr b0 B enc k D a xs ts := ⟨h.1, fun _ he _ => h.ext hD he⟩
theorem Ds.nil : Ds b0 Mk L enc k D a ([] : List α) ([] : List β) := ⟨rfl, fun _ _ => ⟨rfl, Sl.nil, fun i hi => by simp at hi⟩⟩
theorem Sr.nil : Sr b0 B enc k D a ([] : List α) ([] : List β) := ⟨rfl, fun _ _ _ => ⟨rfl, Sl.nil, fun i hi => by simp at hi⟩⟩
theorem Cx.nil : Cx B enc k D a ([] : List α) ([] : List β) := ⟨rfl, fun _ _ => ⟨rfl, Sl.nil, fun i hi => by simp at hi⟩⟩
theorem Sr.j (h : Sr b0 B enc k D a xs ts) (hB : ∀ p ∈ B, p ∈ L := by intro p hp; repeat (first | exact hp | exact List.mem_append_left _ hp | apply List.mem_append_right | apply List.mem_cons_of_mem)) : Ds b0 [] L enc k D a xs ts := ⟨h.1, fun w hw => h.2 w hw.ext_out fun p hp => hw.own p (hB p hp)⟩
theorem Cx.j (h : Cx B enc k D a xs ts) (hB : ∀ p ∈ B, p ∈ L := by intro p hp; repeat (first | exact hp | exact List.mem_append_left _ hp | apply List.mem_append_right | apply List.mem_cons_of_mem)) : Ds b0 Mk L enc k D a xs ts := ⟨h.1, fun w hw => h.2 w fun p hp => hw.own p (hB p hp)⟩
theorem Cx.mono {B' : Aj} (h : Cx B enc k D a xs ts) (hB : ∀ p ∈ B, p ∈ B') : Cx B' enc k D a xs ts := ⟨h.1, fun w hw => h.2 w fun p hp => hw p (hB p hp)⟩
theorem Sr.mono {B' : Aj} (h : Sr b0 B enc k D a xs ts) (hB : ∀ p ∈ B, p ∈ B' := by intro p hp; repeat (first | exact hp | exact List.mem_append_left _ hp | apply List.mem_append_right | apply List.mem_cons_of_mem)) : Sr b0 B' enc k D a xs ts := ⟨h.1, fun w he hw => h.2 w he fun p hp => hw p (hB p hp)⟩
theorem Ds.sl (h : Ds b0 Mk L enc k D a xs ts) : Bp b0 Mk L enc k a (List.zip xs ts) := fun w hw => (h.2 w hw).2.1
theorem Ds.at (h : Ds b0 Mk L enc k D a xs ts) {m : Nat} (hm : m < xs.length) : ∀ w, SH b0 Mk L w → D w (xs.getD m default) (ts.getD m default) := fun w hw => (h.2 w hw).2.2 m hm
theorem Sr.at (h : Sr b0 B enc k D a xs ts) {m : Nat} (hm : m < xs.length) : ∀ w, jT b0 w → (∀ p ∈ B, w.heap[p.1]? = some p.2) → D w (xs.getD m default) (ts.getD m default) := fun w he hw => (h.2 w he hw).2.2 m hm
theorem Cx.at (h : Cx B enc k D a xs ts) {m : Nat} (hm : m < xs.length) : ∀ w : World, (∀ p ∈ B, w.heap[p.1]? = some p.2) → D w (xs.getD m default) (ts.getD m default) := fun w hw => (h.2 w hw).2.2 m hm
theorem A2 {α β : Type} {xs : List α} {ts : List β} (n : Nat) : (List.zip xs ts).take n = List.zip (xs.take n) (ts.take n) := List.take_zipWith
theorem A3 {α β : Type} {xs : List α} {ts : List β} (n : Nat) : (List.zip xs ts).drop n = List.zip (xs.drop n) (ts.drop n) := List.drop_zipWith
theorem Rm.take {w : World} (h : Rm w enc k D a xs ts) (n : Nat) : Rm w enc k D a (xs.take n) (ts.take n) := by
  refine ⟨by rw [List.length_take, List.length_take, h.1], ?_, fun i hi => ?_⟩
  · rw [← A2]
    intro i x hx
    refine h.2.1 i x ?_
    rw [List.getElem?_take] at hx
    split at hx
    · exact hx
    · cases hx
  · rw [List.length_take] at hi
    rw [Qk z2, Qk z2]
    exact h.2.2 i z2
theorem Rm.off {w : World} (h : Rm w enc k D a xs ts) (lo c : Nat) (hc : xs.length ≤ c) : Rm w enc k D (Ju a k lo c) (xs.drop lo) (ts.drop lo) := by
  refine ⟨by rw [List.length_drop, List.length_drop, h.1], ?_, fun i hi => ?_⟩
  · rw [← A3]
    exact h.2.1.off lo c (by rw [Br h.1]; exact hc)
  · rw [List.length_drop] at hi
    rw [Ql, Ql]
    exact h.2.2 _ z2
theorem Ds.take (h : Ds b0 Mk L enc k D a xs ts) (n : Nat) : Ds b0 Mk L enc k D a (xs.take n) (ts.take n) := ⟨by rw [List.length_take, List.length_take, h.1], fun w hw => (h.2 w hw).take n⟩
theorem Sr.take (h : Sr b0 B enc k D a xs ts) (n : Nat) : Sr b0 B enc k D a (xs.take n) (ts.take n) := ⟨by rw [List.length_take, List.length_take, h.1], fun w he hw => (h.2 w he hw).take n⟩
theorem Cx.take (h : Cx B enc k D a xs ts) (n : Nat) : Cx B enc k D a (xs.take n) (ts.take n) := ⟨by rw [List.length_take, List.length_take, h.1], fun w hw => (h.2 w hw).take n⟩
theorem Ds.off (h : Ds b0 Mk L enc k D a xs ts) (lo c : Nat) (hc : xs.length ≤ c) : Ds b0 Mk L enc k D (Ju a k lo c) (xs.drop lo) (ts.drop lo) := ⟨by rw [List.length_drop, List.length_drop, h.1], fun w hw => (h.2 w hw).off lo c hc⟩
theorem Sr.off (h : Sr b0 B enc k D a xs ts) (lo c : Nat) (hc : xs.length ≤ c) : Sr b0 B enc k D (Ju a k lo c) (xs.drop lo) (ts.drop lo) := ⟨by rw [List.length_drop, List.length_drop, h.1], fun w he hw => (h.2 w he hw).off lo c hc⟩
theorem Bs.nil : Bs B D ([] : List α) ([] : List β) := ⟨rfl, fun _ _ i hi => by simp at hi⟩
theorem Bs.mono {B' : Aj} (h : Bs B D xs ts) (hB : ∀ p ∈ B, p ∈ B' := by intro p hp; repeat (first | exact hp | exact List.mem_append_left _ hp | apply List.mem_append_right | apply List.mem_cons_of_mem)) : Bs B' D xs ts := ⟨h.1, fun w hw => h.2 w fun p hp => hw p (hB p hp)⟩
theorem Bs.append {ys : List α} {us : List β} (h : Bs B D xs ts) (h2 : Bs B D ys us) : Bs B D (xs ++ ys) (ts ++ us) := by
  refine ⟨by rw [List.length_append, List.length_append, h.1, h2.1], fun w hw i hi => ?_⟩
  rw [Xz, Xz, h.1]
  rw [List.length_append] at hi
  by_cases hc : i < xs.length
  · rw [if_pos hc, if_pos hc]; exact h.2 w hw i hc
  · rw [if_neg hc, if_neg hc]; exact h2.2 w hw _ z2
theorem Bs.take (h : Bs B D xs ts) (n : Nat) : Bs B D (xs.take n) (ts.take n) := by
  refine ⟨by rw [List.length_take, List.length_take, h.1], fun w hw i hi => ?_⟩
  rw [List.length_take] at hi
  rw [Qk z2, Qk z2]
  exact h.2 w hw i z2
theorem Bs.drop (h : Bs B D xs ts) (n : Nat) : Bs B D (xs.drop n) (ts.drop n) := by
  refine ⟨by rw [List.length_drop, List.length_drop, h.1], fun w hw i hi => ?_⟩
  rw [List.length_drop] at hi
  rw [Ql, Ql]
  exact h.2 w hw _ z2
theorem Bs.one {x : α} {t : β} (h : ∀ w : World, (∀ p ∈ B, w.heap[p.1]? = some p.2) → D w x t) : Bs B D [x] [t] := ⟨rfl, fun w hw i hi => by
  have : i = 0 := by simp at hi; omega
  subst this; exact h w hw⟩
theorem Bs.of (h : Cx B enc k D a xs ts) : Bs B D xs ts := ⟨h.1, fun w hw => (h.2 w hw).2.2⟩
theorem Bi.nj {e : TypeId} {c : Nat} {R : Aj} (hE : Dj enc k) (h : Bi enc k e a c B (List.zip xs ts)) (hd : Bs R D xs ts) (hB : ∀ p ∈ B, p ∈ L := by intro p hp; repeat (first | exact hp | exact List.mem_append_left _ hp | apply List.mem_append_right | apply List.mem_cons_of_mem)) (hR : ∀ p ∈ R, p ∈ L := by intro p hp; repeat (first | exact hp | exact List.mem_append_left _ hp | apply List.mem_append_right | apply List.mem_cons_of_mem)) : Ds b0 Mk L enc k D a xs ts :=
  ⟨hd.1, fun w hw => ⟨hd.1, h.sl hE fun p hp => hw.own p (hB p hp), hd.2 w fun p hp => hw.own p (hR p hp)⟩⟩
theorem Bi.nb {e : TypeId} {c : Nat} {R U : Aj} (hE : Dj enc k) (h : Bi enc k e a c B (List.zip xs ts)) (hd : Bs R D xs ts) (hB : ∀ p ∈ B, p ∈ U := by intro p hp; repeat (first | exact hp | exact List.mem_append_left _ hp | apply List.mem_append_right | apply List.mem_cons_of_mem)) (hR : ∀ p ∈ R, p ∈ U := by intro p hp; repeat (first | exact hp | exact List.mem_append_left _ hp | apply List.mem_append_right | apply List.mem_cons_of_mem)) : Cx U enc k D a xs ts :=
  ⟨hd.1, fun w hw => ⟨hd.1, h.sl hE fun p hp => hw p (hB p hp), hd.2 w fun p hp => hw p (hR p hp)⟩⟩
end
section
variable {P : Program} {b0 : World} {Mk : List Nat} {N : Nat} {D : List Deferred} {L V : Aj} {E : Ew} {ty : TypeId}
theorem A4 {t : TypeId} {x : Operand} {a : Option Addr} {o n : Nat} {α : Type} {enc : α → List Value} {k : Nat} {xs : List α} {cs : List Value} (hA : ∀ w, (isAgg t).run P w = .ok true w) (hS : ∀ w, (sizeOf t).run P w = .ok n w) (m : Nat) {z : α} (j : Nat) (hs : Bp b0 Mk L enc k a xs) (hz : xs[m]? = some z)
    (hv : Y7 (enc z) j n = some cs := by rfl) (hx : ev E x = some (.pointer (some (ea a o))) := by rfl) (ho : o = m * k + j := by first | rfl | omega) :
    Dl P N D b0 Mk L E (.load t x) ty (.agg cs.toArray) := fun a' w ha hw => by
  obtain ⟨b, off, rfl, hlen, hc⟩ := hs w hw m z hz
  subst ho
  have he : ea (some ⟨b, off, none⟩) (m * k + j) = ⟨b, off + m * k + j, none⟩ := by simp [ea, Nat.add_assoc]
  obtain ⟨h1, h2⟩ := Sf _ _ _ _ hv
  have hl : (loadCells ⟨b, off + m * k + j, none⟩ n).run P w = .ok cs.toArray w := by
    rw [← h1]
    exact run_loadCells_list w _ cs fun i v hj => by
      rw [Bc]
      have := hc (j + i) v (h2 i v hj)
      rw [show off + m * k + j + i = off + m * k + (j + i) by omega]
      exact this
  simp [Gc, execOp, ha.eval hx, Instr.loadAt, Instr.sureAddr, loadVar, hA, hS, he, hl]
theorem Na.len {κ : Type} {enc : κ → Value} {es : Array MapEntry} {xs : List κ} (h : Na enc es xs) : es.size = xs.length := by
  have := congrArg List.length h
  simpa using this
theorem kF {t kt et : TypeId} {x : Operand} {r ck : Nat} {es : Array MapEntry} {κ : Type} {enc : κ → Value} {xs : List κ} (hU : ∀ w, (underlying t).run P w = .ok (.map kt et) w) (hes : Na enc es xs) (hx : ev E x = some (.map (some r)) := by rfl)
    (hm : (r, Obj.map es ck) ∈ L := by repeat (first | exact List.mem_cons_self | apply List.mem_cons_of_mem | apply List.mem_append_right)) :
    Dl P N D b0 Mk L E (.call { callee := .builtin .len, args := #[x], argTypes := #[t] }) ty (.int .i64 (xs.length : Int)) := by
  rw [← hes.len]
  exact AG0 hU hx hm
end
section
variable {P : Program} {rd : Option Nat} {b0 : World} {Mk : List Nat} {N : Nat} {D : List Deferred} {ops : Array Oper} {L V : Aj} {E : Ew} {T : Act → World → Prop}
variable {ty : TypeId} {pos : String} {after : Array Edge} {d : Nat}
theorem Pz {α : Type} {enc : α → List Value} {kk by_ n : Nat} {i : Int} {t e : TypeId} {z : Value} {x0 : α} {x y : Operand} {l : List Oper} {n' f' : Nat} {listed : Array Bool} {j : Nat} (hj : l[j]? = some { dst := some d, op := .makeSlice t x y, type := ty, pos := pos, after := after, guard := none }) (hT : Ty P e kk by_ z) (hU : P.underlying t = some (.slice e)) (hE : Dj enc kk) (hz : Db z = enc x0) (hb : by_ * n ≤ 281474976710656 ∧ n ≤ 4611686018427387904) (hx : ev E x = some (.int .i64 i) := by rfl) (hy : ev E y = some (.int .i64 i) := by rfl) (hi : i = (n : Int) := by omega) (hd : Nat.blt d N = true := by rfl)
    (k : ∀ a2 B2, Bi enc kk e a2 n B2 (List.replicate n x0) → JG P rd b0 Mk N D l n' f' (listed.setIfInBounds j true) (B2 ++ L) V ((d, .slice a2 n n) :: E) T) :
    JO P rd b0 Mk N D l n' f' listed L V E T j :=
  Ff hj hT hU hE hz hb hx hy hi hd (fun a2 B2 ho => by have h := k a2 B2 ho; rw [List.length_replicate]; exact h)
end
section
variable {P : Program} {b0 : World} {Mk : List Nat} {N : Nat} {D : List Deferred} {L : Aj} {E : Ew} {ty : TypeId}
theorem Kc {t e len n : TypeId} {x y : Operand} {k : IntKind} {p : Int} {l cs : List Value} {m : Nat} (hU : ∀ w, (underlying t).run P w = .ok (.array len e) w) (hS : ∀ w, (sizeOf e).run P w = .ok n w) (hA : ∀ w, (isAgg e).run P w = .ok true w) (hx : ev E x = some (.agg l.toArray) := by rfl) (hy : ev E y = some (.int k p) := by rfl) (hi : p = (m : Int) := by rfl) (hm : Nat.blt m len = true := by rfl) (hv : (l.drop (m * n)).take n = cs := by rfl) :
    Dl P N D b0 Mk L E (.index t x y) ty (.agg cs.toArray) := fun a w ha _ => by
  subst hi
  have hm' : m < len := by simpa [Nat.blt_eq] using hm
  subst hv
  simp [Gc, execOp, ha.eval hx, ha.eval hy, Instr.index, asIntOf, hU, hS, hm', part, hA]
  try rw [List.take_drop]
end
end Go.Proofs.YtopjaeoklkpcpaaGreatDoor.Jd

namespace Go.Proofs.YtopjaeoklkpcpaaGreatDoor.Jd
open Go.Proofs.Tryz
open Go.RowKit (Below)
set_option linter.unusedVariables false
set_option linter.unusedSimpArgs false
theorem Sl.cmono {w w' : World} {α : Type} {enc : α → List Value} {k : Nat} {a : Option Addr} {xs : List α} (hc : ∀ p v, w.cell? p = some v → w'.cell? p = some v) (h : Sl w enc k a xs) : Sl w' enc k a xs := fun i x hx => by
  obtain ⟨b, off, e, hl, h2⟩ := h i x hx
  exact ⟨b, off, e, hl, fun j v hv => hc _ _ (h2 j v hv)⟩
theorem Bp.nilj {b0 : World} {Mk : List Nat} {L : Aj} {α : Type} {enc : α → List Value} {k : Nat} {a : Option Addr} : Bp b0 Mk L enc k a ([] : List α) := fun _ _ => Sl.nil
theorem sk {a : Nat × Obj} {L' L : Aj} (h : List.Sublist L' L) : List.Sublist (a :: L') (a :: L) := h.cons_cons a
theorem sd {a : Nat × Obj} {L' L : Aj} (h : List.Sublist L' L) : List.Sublist L' (a :: L) := h.cons a
theorem sa {A L' L : Aj} (h : List.Sublist L' L) : List.Sublist (A ++ L') (A ++ L) := (List.Sublist.refl A).append h
theorem sx {A L' L : Aj} (h : List.Sublist L' L) : List.Sublist L' (A ++ L) := h.trans (List.sublist_append_right A L)
theorem sz : List.Sublist ([] : Aj) [] := List.nil_sublist _
abbrev vi (n : Int) : Value := .int .i64 n
abbrev vs (a : Option Addr) (n c : Nat) : Value := .slice a n c
abbrev vt (s : Ap) : Value := .string (bs s)
abbrev oc (l : List Value) (t : TypeId) : Obj := .cells l.toArray t
theorem nE {L : Aj} : ([] : Aj) ++ L = L := rfl
theorem nC {a : Nat × Obj} {V L X : Aj} (h : V ++ L = X) : (a :: V) ++ L = a :: X := h ▸ rfl
theorem nA {B V L X : Aj} (h : V ++ L = X) : (B ++ V) ++ L = B ++ X := by rw [List.append_assoc, h]
theorem vp {L L2 V L' : Aj} (p : List.Perm L L2) (e : V ++ L' = L2) : List.Perm L (V ++ L') := e ▸ p
theorem eqp {L L' : Aj} (e : L = L') : List.Perm L L' := .of_eq e
theorem S6 {A B C : Aj} (h1 : ∀ p ∈ A, p ∈ C) (h2 : ∀ p ∈ B, p ∈ C) : ∀ p ∈ A ++ B, p ∈ C := fun p hp => (List.mem_append.1 hp).elim (h1 p) (h2 p)
theorem A5 {C : Aj} : ∀ p ∈ ([] : Aj), p ∈ C := fun p hp => by cases hp
theorem S7 {r : Nat} {o : Obj} {C : Aj} (h : (r, o) ∈ C) : ∀ p ∈ [(r, o)], p ∈ C := fun p hp => by
  rw [List.mem_singleton] at hp; subst hp; exact h
theorem sh {A C : Aj} (h : ∀ p ∈ A, p ∈ C := by
    (repeat' (first | exact A5 | refine S6 ?_ ?_ | refine S7 ?_)) <;>
    first
    | (intro p hp; (repeat (first | exact hp | exact List.mem_append_left _ hp | apply List.mem_append_right | apply List.mem_cons_of_mem)); done)
    | ((repeat (first | exact List.mem_cons_self | apply List.mem_cons_of_mem | apply List.mem_append_right)); done)
    | (intro p hp; simp_all; done)) : ∀ p ∈ A, p ∈ C := h
section
variable {P : Program} {b0 : World} {Mk : List Nat} {N : Nat} {D : List Deferred} {L : Aj} {E : Ew} {ty : TypeId}
theorem A6 {κ : Type} [DecidableEq κ] {kd : TypeDesc} {enc : κ → Value} {t kt et : TypeId} {x y : Operand} {r ck : Nat} {es : Array MapEntry} {xs : List κ} (q : κ) [inst : Decidable (q ∈ xs)] (hk : Px kd enc) (hU : ∀ w, (underlying t).run P w = .ok (.map kt et) w) (hK : ∀ w, (underlying kt).run P w = .ok kd w)
    (hz : ∀ w, (zeroValue et).run P w = .ok (.bool false) w) (hes : Na enc es xs) (hx : ev E x = some (.map (some r)) := by rfl) (hy : ev E y = some (enc q) := by rfl)
    (hm : (r, Obj.map es ck) ∈ L := by repeat (first | exact List.mem_cons_self | apply List.mem_cons_of_mem | apply List.mem_append_right)) :
    Dl P N D b0 Mk L E (.lookup t x y false) ty (.bool (decide (q ∈ xs))) := by
  have h := Xy (P := P) (N := N) (D := D) (b0 := b0) (Mk := Mk) (L := L) (E := E) (ty := ty) (t := t) q hk hU hK hz hes hx hy hm
  have e : ∀ (i1 i2 : Decidable (q ∈ xs)), @decide _ i1 = @decide _ i2 := fun i1 i2 => by congr
  rw [e _ inst] at h
  exact h
end
end Go.Proofs.YtopjaeoklkpcpaaGreatDoor.Jd

namespace Go.Proofs.YtopjaeoklkpcpaaGreatDoor.Jd
open Go.Proofs.Tryz
set_option linter.unusedVariables false
set_option linter.unusedSimpArgs false
theorem Em {A C : Aj} {w : World} (hw : ∀ p ∈ C, w.heap[p.1]? = some p.2) (h : ∀ p ∈ A, p ∈ C := by exact sh) : ∀ p ∈ A, w.heap[p.1]? = some p.2 := fun p hp => hw p (h p hp)
theorem sho {b0 : World} {Mk : List Nat} {A L : Aj} {w : World} (hw : SH b0 Mk L w) (h : ∀ p ∈ A, p ∈ L := by exact sh) : ∀ p ∈ A, w.heap[p.1]? = some p.2 := fun p hp => hw.own p (h p hp)
end Go.Proofs.YtopjaeoklkpcpaaGreatDoor.Jd

namespace Go.Proofs.YtopjaeoklkpcpaaGreatDoor.Jd
open Go.Proofs.Tryz
open Go.RowKit (Below)
set_option linter.unusedVariables false
set_option linter.unusedSimpArgs false
section
variable {P : Program} {rd : Option Nat} {b0 : World} {Mk : List Nat} {N : Nat} {D : List Deferred} {ops : Array Oper} {L V : Aj} {C : List (Addr × Value)} {E : Ew} {T : Act → World → Prop}
variable {op : Op} {ty : TypeId} {pos : String} {after : Array Edge} {v : Value} {d : Nat}
theorem AA1 {l : List (Bool × Oper)} (h : Dl P N D b0 Mk (V ++ L) E op ty v) (hn : Be op = true := by rfl) (hd : Nat.blt d N = true := by rfl) (k : JK P rd b0 Mk N D ops L V C ((d, v) :: E) l T) :
    JK P rd b0 Mk N D ops L V C E ((false, { dst := some d, op := op, type := ty, pos := pos, after := after, guard := none }) :: l) T := by
  intro a w ha hw hc
  unfold Ts
  rw [if_pos (by rfl)]
  exact Cz (Bd hn) (by rw [Ce]; exact h a w ha hw) ⟨_, fun _ h => h, ⟨hw.right, hc⟩, k _ _ (ha.put hd v) hw hc⟩
theorem AS1 {l : List (Bool × Oper)} {f : FuncId} {args : List Value} {R : World → Ending → World → Prop} (hc : Mu P N D b0 Mk L E op ty f args) (h : ∀ w, SH b0 Mk L w → Calls P f args.toArray w (R w)) (hn : Be op = true := by rfl) (hd : Nat.blt d N = true := by rfl)
    (k : ∀ w e w', SH b0 Mk L w → R w e w' → ∃ v B L', e = .returned v ∧ Dh w w' B ∧ L' = B ++ L ∧ JK P rd b0 Mk N D ops L' V C ((d, v) :: E) l T) :
    JK P rd b0 Mk N D ops L V C E ((false, { dst := some d, op := op, type := ty, pos := pos, after := after, guard := none }) :: l) T := by
  intro a w ha hw hk
  unfold Ts
  rw [if_pos (by rfl)]
  refine Dt (Bd hn) X9 ((h w hw.right).mono fun e w' he => ?_)
  obtain ⟨v, B, L', rfl, h2, rfl, h3⟩ := k w e w' hw.right he
  have h4 := Tt hw h2
  exact ⟨_, rfl, SK b0 Mk (B ++ L) C, fun y hy => ⟨hy.1.right, hy.2⟩, ⟨h4.right, hk.ext h2.1⟩, h3 _ _ (ha.put hd _) h4 (hk.ext h2.1)⟩
end
end Go.Proofs.YtopjaeoklkpcpaaGreatDoor.Jd

namespace Go.Proofs.YtopjaeoklkpcpaaGreatDoor.Jd
open Go.Proofs.Tryz
open Go.ChangeShapes Go.WideShapes Go.ChangeAt Go.RowKit
set_option linter.unusedVariables false
set_option linter.unusedSimpArgs false
section
variable {H : Type} {encH : TypeId × Value → H} {P : Program} {W : World}
def AH4 {α β : Type} (encH : TypeId × Value → H) (P : Program) (W : World) (e : TypeId) (enc : α × β → List Value) (D : World → α → β → Prop) : Prop :=
  ∀ (n : Nat) (cs : List Value) (y : DataW H × List MemPlace), DataW.trod encH P W 0 (fun _ => true) true n e cs = some y → ∃ x t, cs = enc (x, t) ∧ D W x t
theorem A7 {α β : Type} [Inhabited α] [Inhabited β] {enc : α × β → List Value} {D : World → α → β → Prop} {k : Nat} {t e : TypeId} {n : Nat} {cs : List Value} {y : DataW H × List MemPlace} (ht : P.underlying t = some (.slice e)) (hk : P.cellsOf e = k) (hE : Dj enc k) (ho : AH4 encH P W e enc D)
    (h : DataW.trod encH P W 0 (fun _ => true) true n t cs = some y) : ∃ a c, ∃ xs : List α, ∃ ts : List β, cs = [.slice a xs.length c] ∧ xs.length ≤ c ∧ Rm W enc k D a xs ts := by
  obtain ⟨a, c, zs, h1, h2, h3⟩ := Xt (enc := fun z : {z : α × β // D W z.1 z.2} => enc z.1) ht hk ⟨hE.pos, fun z => hE.len z.1, fun z => hE.one z.1⟩ (fun n cs y h => by
    obtain ⟨x, t, e, hd⟩ := ho n cs y h
    exact ⟨⟨(x, t), hd⟩, e⟩) h
  have hz : List.zip (zs.map fun z => z.1.1) (zs.map fun z => z.1.2) = zs.map fun z => z.1 := List.zip_map'
  refine ⟨a, c, zs.map (fun z => z.1.1), zs.map (fun z => z.1.2), by simpa using h1, by simpa using h2, by simp, ?_, fun i hi => ?_⟩
  · rw [hz]
    intro i x hx
    rw [List.getElem?_map, Option.map_eq_some_iff] at hx
    obtain ⟨z, hz1, rfl⟩ := hx
    exact h3 i z hz1
  · have hi' : i < zs.length := by simpa using hi
    simpa [List.getD, hi'] using (zs[i]).2
def A8 {H : Type} (x : Int × Ap × Int) : DataW H := .agg [.lit (.int .i64 x.1), .lit (.string x.2.1), .lit (.int .i64 x.2.2)]
def A9 (x : Int × Ap × Int) : List Value := [.int .i64 x.1, .string (bs x.2.1), .int .i64 x.2.2]
theorem uO {base : Nat} {sp : Nat → Bool} {held : Bool} {fuel : Nat} {e : TypeId} {fs : Array Field} {f0 f1 f2 : Field} {cs : List Value} {x : Int × Ap × Int} {ps : List MemPlace} (hs : P.underlying e = some (.struct fs)) (hfs : fs = #[f0, f1, f2]) (hce : P.cellsOf e = 3)
    (o0 : f0.offset = 0) (o1 : f1.offset = 1) (o2 : f2.offset = 2) (t0 : P.underlying f0.type = some (.int .i64)) (t1 : P.underlying f1.type = some .string) (t2 : P.underlying f2.type = some (.int .i64)) (c0 : P.cellsOf f0.type = 1) (c1 : P.cellsOf f1.type = 1) (c2 : P.cellsOf f2.type = 1)
    (h : DataW.trod encH P W base sp held fuel e cs = some (A8 x, ps)) : cs = A9 x := by
  subst hfs
  obtain ⟨xs, m, _, hx, hlen, hxl, hf⟩ := DataW.trod_struct hs h
  have hxl' : xs.length = 3 := by simpa using hxl
  rw [hce] at hlen
  obtain ⟨x0, x1, x2, rfl⟩ : ∃ x0 x1 x2, xs = [x0, x1, x2] := by
    match xs, hxl' with
    | [a, b, c], _ => exact ⟨a, b, c, rfl⟩
  obtain ⟨v0, v1, v2, rfl⟩ : ∃ v0 v1 v2, cs = [v0, v1, v2] := by
    match cs, hlen with
    | [a, b, c], _ => exact ⟨a, b, c, rfl⟩
  have e0 : _ = some x0 := hf 0 f0 rfl
  have e1 : _ = some x1 := hf 1 f1 rfl
  have e2 : _ = some x2 := hf 2 f2 rfl
  rw [o0, c0] at e0
  rw [o1, c1] at e1
  rw [o2, c2] at e2
  obtain ⟨n0, q0, r0, _⟩ := DataW.trod_int t0 e0
  obtain ⟨s1, q1, r1, _⟩ := DataW.trod_string t1 e1
  obtain ⟨n2, q2, r2, _⟩ := DataW.trod_int t2 e2
  have hd := congrArg Prod.fst hx
  simp only [A8, r0, r1, r2, List.map_cons, List.map_nil, DataW.agg.injEq, List.cons.injEq, DataW.lit.injEq, Lit.int.injEq, Lit.string.injEq, true_and, and_true] at hd
  obtain ⟨d0, d1, d2⟩ := hd
  simp at q0 q1 q2
  rw [q0, q1, q2, ← d0, ← d2, zX s1, ← d1]
  rfl
theorem kG {name : String} {l : List (Int × Ap × Int)} {rest : List (String × DataW Unit)} {g : Nat} {t e : TypeId} {n : Nat} {fs : Array Field} {f0 f1 f2 : Field} (hg : P.globalNamed name = some g) (hty : (P.globals[g]?).map (·.type) = some t) (ht : P.underlying t = some (.array n e)) (hs : P.underlying e = some (.struct fs)) (hfs : fs = #[f0, f1, f2]) (hce : P.cellsOf e = 3) (hct : P.cellsOf t = 3 * n)
    (o0 : f0.offset = 0) (o1 : f1.offset = 1) (o2 : f2.offset = 2) (t0 : P.underlying f0.type = some (.int .i64)) (t1 : P.underlying f1.type = some .string) (t2 : P.underlying f2.type = some (.int .i64)) (c0 : P.cellsOf f0.type = 1) (c1 : P.cellsOf f1.type = 1) (c2 : P.cellsOf f2.type = 1) (hl : l.length = n)
    (h : laidMet P ((name, .agg (l.map A8)) :: rest) W) : W.var? P name = some (l.flatMap A9).toArray := by
  obtain ⟨ps, ⟨g', t', cs, fuel, p, q, hg', ht', hvar, hd, _, _⟩, _⟩ := h
  obtain rfl := Option.some.inj (hg.symm.trans hg')
  obtain rfl := Option.some.inj (hty.symm.trans ht')
  refine hvar.trans (congrArg some ?_)
  obtain ⟨xs, m, _, hx, hlen, hxl, hf⟩ := DataW.trod_array ht hd
  rw [hct] at hlen
  rw [hce] at hf
  have hdx : xs.map (·.1) = l.map A8 := by
    have := congrArg Prod.fst hx
    simpa using this.symm
  have row : ∀ i (hi : i < n), (cs.toList.drop (i * 3)).take 3 = A9 (l.getD i default) := fun i hi => by
    have h1 := hf i hi
    rw [List.getElem?_eq_getElem z2] at h1
    have h2 : xs[i].1 = A8 (l.getD i default) := by
      have := congrArg (·[i]?) hdx
      simpa [show i < xs.length by omega, show i < l.length by omega, List.getD] using this
    exact uO hs hfs hce o0 o1 o2 t0 t1 t2 c0 c1 c2 (x := l.getD i default) (ps := xs[i].2) (by rw [h1, ← h2])
  have key : ∀ (l : List (Int × Ap × Int)) (cs : List Value), cs.length = 3 * l.length → (∀ i, i < l.length → (cs.drop (i * 3)).take 3 = A9 (l.getD i default)) → cs = l.flatMap A9 := by
    intro l
    induction l with
    | nil => intro cs hc _; simpa using hc
    | cons x r ih =>
      intro cs hc hr
      have h0 := hr 0 Hb
      simp at h0
      rw [List.flatMap_cons, ← List.take_append_drop 3 cs, h0]
      congr 1
      refine ih (cs.drop 3) (by simp at hc ⊢; omega) fun i hi => ?_
      have := hr (i + 1) cJ
      rw [List.drop_drop, show 3 + i * 3 = (i + 1) * 3 by omega, this]
      simp
  have := key l cs.toList (by rw [hl]; simpa using hlen) (fun i hi => row i z2)
  rw [← this]
end
end Go.Proofs.YtopjaeoklkpcpaaGreatDoor.Jd

namespace Go.Proofs.YtopjaeoklkpcpaaGreatDoor.Jd
open Go.Proofs.Tryz
open Go.ChangeShapes Go.WideShapes Go.ChangeAt Go.RowKit
set_option linter.unusedVariables false
set_option linter.unusedSimpArgs false
theorem kH {P : Program} (w0 : World) {laid : List (String × DataW Unit)} (args : Array Value)
    (hf : w0.layFits P laid [] = true) (hi : w0.layIfaces P laid (w0.layVars P laid) = true) :
    laidMet P laid ((w0.layVars P laid).forCall (fun _ _ => 0) ⟨#[], args, []⟩).memory := by
  have e1 : (laid.filter fun x => (laid.map (·.1)).contains x.1) = laid := List.filter_eq_self.2 fun x hx => List.contains_iff_mem.2 (List.mem_map.2 ⟨x, hx, rfl⟩)
  have e2 : (laid.filter fun x => !(laid.map (·.1)).contains x.1) = [] := List.filter_eq_nil_iff.2 fun x hx => by rw [List.contains_iff_mem.2 (List.mem_map.2 ⟨x, hx, rfl⟩)]; simp
  have h : laidMet P laid (w0.layVars P laid) := laidMet_layVars (w0 := w0) (laid.map (·.1)) [] (by rw [e1]) (by rw [e1]; exact hf) (by rw [e1]; exact hi) (by rw [e2]; exact LaidIn.none)
  exact h.of_heap (by simp [World.memory, World.forCall, Input.heap])
theorem uP {P : Program} {l : List (String × DataW Unit)} {W : World} {n : String} {d : DataW Unit} {g R t ng N : Nat} {nm : List UInt8} (h : handlesMet P l W) (hm : (n, d) ∈ l) (hn : d.handleName? = some nm) (hf : d.funcsIn? = none) (hg : P.globalNamed n = some g)
    (hR : (P.cutTypes.find? (·.1 == "internal/reflectlite.rtype")).map (·.2) = some R) (hN : P.types.size = N) (hone : ((List.range N).filter fun t => P.rowNamed t nm) = [t]) (hh : typeHandle P t = .pointer (some ⟨ng, t, none⟩)) :
    W.cell? ⟨g, 0, none⟩ = some (.iface R (.agg #[.pointer (some ⟨ng, t, none⟩)])) := by
  have h1 := h _ hm
  simp only [hf] at h1
  obtain ⟨name, u, ty, e1, e2, e3, e4, e5⟩ := h1
  rw [hn] at e1
  have en := Option.some.inj e1
  subst en
  obtain rfl := Option.some.inj (hR.symm.trans e2)
  have hmm : ty ∈ (List.range N).filter fun t => P.rowNamed t nm := List.mem_filter.2 ⟨List.mem_range.2 (by rw [← hN]; exact e3), e4⟩
  rw [hone] at hmm
  obtain rfl := List.mem_singleton.1 hmm
  rw [hh] at e5
  simpa using World.var?_cell hg e5 0
end Go.Proofs.YtopjaeoklkpcpaaGreatDoor.Jd

namespace Go.Proofs.YtopjaeoklkpcpaaGreatDoor.Jd
open Go.Proofs.Tryz
open Go.Proofs
open Go.RowKit (Below)
set_option linter.unusedVariables false
set_option linter.unusedSimpArgs false
/-- What the library's variables hold where a call begins. -/
structure Gl (w : World) : Prop where
  vb : ∃ T f, w.heap[1]? = some (Obj.cells ([(Value.int .i64 (1)), (Value.string (bs ([99, 114, 101, 97, 116, 101] : Ap))), (Value.int .i64 (4)), (Value.int .i64 (2)), (Value.string (bs ([115, 117, 115, 112, 101, 110, 100] : Ap))), (Value.int .i64 (2)), (Value.int .i64 (3)), (Value.string (bs ([114, 101, 115, 117, 109, 101] : Ap))), (Value.int .i64 (2)), (Value.int .i64 (4)), (Value.string (bs ([100, 114, 97, 105, 110] : Ap))), (Value.int .i64 (2)), (Value.int .i64 (5)), (Value.string (bs ([100, 101, 108, 101, 116, 101] : Ap))), (Value.int .i64 (4)), (Value.int .i64 (6)), (Value.string (bs ([114, 111, 116, 97, 116, 101] : Ap))), (Value.int .i64 (4)), (Value.int .i64 (7)), (Value.string (bs ([97, 99, 108] : Ap))), (Value.int .i64 (4)), (Value.int .i64 (8)), (Value.string (bs ([107, 105, 108, 108] : Ap))), (Value.int .i64 (2)), (Value.int .i64 (9)), (Value.string (bs ([108, 105, 115, 116] : Ap))), (Value.int .i64 (1)), (Value.int .i64 (10)), (Value.string (bs ([115, 104, 111, 119] : Ap))), (Value.int .i64 (1))]).toArray T f)
  ety : w.cell? ⟨0, 0, none⟩ = some (.iface 199 (.agg #[.pointer (some ⟨6, 78, none⟩)]))
theorem uQ {w w' : World} (he : jT w w') {a : Addr} {v : Value} (h : w.cell? a = some v) : w'.cell? a = some v := by
  have hlt := World.block_lt_of_cell? w _ h
  simp only [World.cell?] at h ⊢
  rw [he.block _ hlt]
  exact h
theorem S8 {w w' : World} (he : jT w w') {k : Nat} {cs : Array Value} (h : ∃ T f, w.heap[k]? = some (Obj.cells cs T f)) : ∃ T f, w'.heap[k]? = some (Obj.cells cs T f) := by
  obtain ⟨T, f, h⟩ := h
  exact ⟨T, f, by rw [he.block k (Array.getElem?_eq_some_iff.1 h).1]; exact h⟩
theorem Gl.ext {w w' : World} (h : Gl w) (he : jT w w') : Gl w' := ⟨S8 he h.vb, uQ he h.ety⟩
end Go.Proofs.YtopjaeoklkpcpaaGreatDoor.Jd

namespace Go.Proofs.YtopjaeoklkpcpaaGreatDoor.Jd
open Go.Proofs.Tryz
open Go.Proofs
set_option maxRecDepth 100000
open Go.RowKit Go.Extern.Stop Go.Stop Go.Extern
set_option linter.unusedVariables false
set_option linter.unusedSimpArgs false
theorem mQ (v : Value) (w : World) : (Extern.ReflectliteType.typeOf #[.iface 240 v]).run Tryz.prog w = .ok (.iface 199 (.agg #[.pointer (some ⟨6, 240, none⟩)])) w := by kernel_rfl
theorem Ya (w : World) : ((Extern.ReflectliteType.method fun t => do Extern.Rtype.noPackHeld "Comparable" t; pure (.bool (← typeInfo t).comparable)) #[.agg #[.pointer (some ⟨6, 240, none⟩)]]).run Tryz.prog w = .ok (.bool true) w := by kernel_rfl
theorem Nb (v : Value) (w : World) : (Go.method 373 199 v "Comparable").run Tryz.prog w = .ok (205, v) w := by kernel_rfl
theorem B0 : (Tryz.prog.info? 240).map (·.comparable) = some true := by kernel_rfl
theorem B4 : (Tryz.prog.info? 261).map (·.size) = some 1 := by kernel_rfl
theorem AS2 (v : Value) (xT : TypeId) (w : World) : (Instr.typeAssert (.iface 240 v) xT 236 true).run Tryz.prog w = .ok (.tuple #[.nilIface, .bool false]) w := run_typeAssert_lacksB underlying236 z4 z4 v xT w
theorem uR (v : Value) (xT : TypeId) (w : World) : (Instr.typeAssert (.iface 240 v) xT 207 true).run Tryz.prog w = .ok (.tuple #[.nilIface, .bool false]) w := run_typeAssert_lacksB underlying207 z4 z4 v xT w
theorem pM (v : Value) (xT : TypeId) (w : World) : (Instr.typeAssert (.iface 240 v) xT 208 true).run Tryz.prog w = .ok (.tuple #[.nilIface, .bool false]) w := run_typeAssert_lacksB underlying208 z4 z4 v xT w
theorem S9 (a : Addr) (w : World) :
    Calls Tryz.prog 176 #[.iface 240 (.pointer (some a)), .iface 240 (.pointer (some a))] w fun e w' => e = .returned (.bool true) ∧ w' = w := by
  obtain ⟨i, hi, hcmp⟩ := Option.map_eq_some_iff.1 B0
  obtain ⟨j, hj, hjs⟩ := Option.map_eq_some_iff.1 B4
  have h8 := @run_callFunc_extern Tryz.prog 148 _ Extern.ReflectliteType.typeOf func148 z4 z4 z4 z4
  have h32 := fun w => (@run_callFunc_extern Tryz.prog 205 _ (Extern.ReflectliteType.method fun t => do Extern.Rtype.noPackHeld "Comparable" t; pure (.bool (← typeInfo t).comparable)) func205 z4 z4 z4 z4 #[.agg #[.pointer (some ⟨6, 240, none⟩)]] w).trans (by rw [Ya]; rfl : _ = Result.ok (Next.value (.bool true)) w)
  have tT := mQ
  have mR := Nb
  have heq := run_eql_iface_ptr_same (P := Tryz.prog) w a underlying78 underlying240 hi hcmp hj
  go_enter func176, ntmps176
  go_wp2
  refine wp_loop_rounds 1 ?_
  rw [rounds_succ]
  go_wp2
  go_ret
  exact ⟨rfl, rfl⟩
theorem B5 (a b : Addr) (ca cb : Array Value) (ta tb : TypeId) (w : World) (hne : a ≠ b) (ha : w.heap[a.block]? = some (.cells ca ta (0, 0))) (hb : w.heap[b.block]? = some (.cells cb tb (0, 0))) :
    Calls Tryz.prog 176 #[.iface 240 (.pointer (some a)), .iface 240 (.pointer (some b))] w fun e w' => e = .returned (.bool false) ∧ w' = w := by
  obtain ⟨i, hi, hcmp⟩ := Option.map_eq_some_iff.1 B0
  obtain ⟨j, hj, hjs⟩ := Option.map_eq_some_iff.1 B4
  have h8 := @run_callFunc_extern Tryz.prog 148 _ Extern.ReflectliteType.typeOf func148 z4 z4 z4 z4
  have h32 := fun w => (@run_callFunc_extern Tryz.prog 205 _ (Extern.ReflectliteType.method fun t => do Extern.Rtype.noPackHeld "Comparable" t; pure (.bool (← typeInfo t).comparable)) func205 z4 z4 z4 z4 #[.agg #[.pointer (some ⟨6, 240, none⟩)]] w).trans (by rw [Ya]; rfl : _ = Result.ok (Next.value (.bool true)) w)
  have tT := mQ
  have mR := Nb
  have nE := AS2
  have uE := uR
  have vE := pM
  have heq := run_eql_iface_ptr_other (P := Tryz.prog) w underlying78 underlying240 hi hcmp hj (by rw [hjs]; decide) hne ha hb
  go_enter func176, ntmps176
  go_wp2
  refine wp_loop_rounds 1 ?_
  rw [rounds_succ]
  go_wp2
  go_ret
  exact ⟨rfl, rfl⟩
theorem Zn (w : World) {a : Addr} : Hn Tryz.prog 176 [.iface 240 (.pointer (some a)), .iface 240 (.pointer (some a))] w (.bool true) :=
  (S9 a w).mono fun e w' ⟨he, hw⟩ => ⟨he, hw ▸ Below.refl _ _⟩
theorem Wh (w : World) {a b : Addr} (hne : a ≠ b) (ha : ∃ c t, w.heap[a.block]? = some (.cells c t (0, 0))) (hb : ∃ c t, w.heap[b.block]? = some (.cells c t (0, 0))) : Hn Tryz.prog 176 [.iface 240 (.pointer (some a)), .iface 240 (.pointer (some b))] w (.bool false) := by
  obtain ⟨ca, ta, ha⟩ := ha
  obtain ⟨cb, tb, hb⟩ := hb
  exact (B5 a b ca cb ta tb w hne ha hb).mono fun e w' ⟨he, hw⟩ => ⟨he, hw ▸ Below.refl _ _⟩

/-- What the sentinels hold where a call begins. -/
structure Er (w : World) (ea0 ea1 ea2 ea3 : Addr) : Prop where
  v0 : ∃ T f, w.heap[2]? = some (Obj.cells [Value.iface 240 (.pointer (some ea0))].toArray T f)
  b0 : ∃ c t, w.heap[ea0.block]? = some (.cells c t (0, 0))
  v1 : ∃ T f, w.heap[3]? = some (Obj.cells [Value.iface 240 (.pointer (some ea1))].toArray T f)
  b1 : ∃ c t, w.heap[ea1.block]? = some (.cells c t (0, 0))
  v2 : ∃ T f, w.heap[4]? = some (Obj.cells [Value.iface 240 (.pointer (some ea2))].toArray T f)
  b2 : ∃ c t, w.heap[ea2.block]? = some (.cells c t (0, 0))
  v3 : ∃ T f, w.heap[5]? = some (Obj.cells [Value.iface 240 (.pointer (some ea3))].toArray T f)
  b3 : ∃ c t, w.heap[ea3.block]? = some (.cells c t (0, 0))
  n0_1 : ea0 ≠ ea1
  n0_2 : ea0 ≠ ea2
  n0_3 : ea0 ≠ ea3
  n1_0 : ea1 ≠ ea0
  n1_2 : ea1 ≠ ea2
  n1_3 : ea1 ≠ ea3
  n2_0 : ea2 ≠ ea0
  n2_1 : ea2 ≠ ea1
  n2_3 : ea2 ≠ ea3
  n3_0 : ea3 ≠ ea0
  n3_1 : ea3 ≠ ea1
  n3_2 : ea3 ≠ ea2
theorem Lk {w w' : World} (he : jT w w') {k : Nat} {ob : Obj} (h : w.heap[k]? = some ob) : w'.heap[k]? = some ob := by rw [he.block k (Array.getElem?_eq_some_iff.1 h).1]; exact h
theorem Er.ext {w w' : World} {ea0 ea1 ea2 ea3 : Addr} (h : Er w ea0 ea1 ea2 ea3) (he : jT w w') : Er w' ea0 ea1 ea2 ea3 :=
  ⟨h.v0.imp fun T h => h.imp fun f h => Lk he h, h.b0.imp fun T h => h.imp fun f h => Lk he h, h.v1.imp fun T h => h.imp fun f h => Lk he h, h.b1.imp fun T h => h.imp fun f h => Lk he h, h.v2.imp fun T h => h.imp fun f h => Lk he h, h.b2.imp fun T h => h.imp fun f h => Lk he h, h.v3.imp fun T h => h.imp fun f h => Lk he h, h.b3.imp fun T h => h.imp fun f h => Lk he h, h.n0_1, h.n0_2, h.n0_3, h.n1_0, h.n1_2, h.n1_3, h.n2_0, h.n2_1, h.n2_3, h.n3_0, h.n3_1, h.n3_2⟩
end Go.Proofs.YtopjaeoklkpcpaaGreatDoor.Jd

namespace Go.Proofs.YtopjaeoklkpcpaaGreatDoor.Jd
open Go.Proofs.Tryz
open Go.Proofs
open Go.RowKit (Below)
set_option maxRecDepth 100000
set_option maxHeartbeats 8000000
set_option linter.unusedVariables false
set_option linter.unusedSimpArgs false
structure Ar where
  slot : Int
  gen : Int
instance : Inhabited Ar := ⟨⟨default, default⟩⟩
instance : DecidableEq Ar := fun a b => decidable_of_iff (a.slot = b.slot ∧ a.gen = b.gen) ⟨fun h => by cases a; cases b; simp_all, fun h => by subst h; simp⟩
structure Ax where
  gens : List Int
  used : List Bool
  free : List Int
instance : Inhabited Ax := ⟨⟨default, default, default⟩⟩
instance : DecidableEq Ax := fun a b => decidable_of_iff (a.gens = b.gens ∧ a.used = b.used ∧ a.free = b.free) ⟨fun h => by cases a; cases b; simp_all, fun h => by subst h; simp⟩
def Iu (s1 : List Int) (s2 : List Int) : Nat → Nat → Except Bool Nat
  | 0, x_1 => .ok (x_1)
  | n_2 + 1, x_1 => (if ((x_1 : Nat) : Int) < ((s1.length : Nat) : Int) then (if (s1.getD x_1 default) ≠ (s2.getD x_1 default) then .error false else (Iu s1 s2 n_2 (x_1 + 1))) else .ok (x_1))
def K2 (s1 : List Int) (s2 : List Int) : Bool := (if ((s1.length : Nat) : Int) ≠ ((s2.length : Nat) : Int) then false else (Bn (Iu s1 s2 (s1.length + 1) 0) (fun r => r) (fun x_1 => true)))
def Iv (s1 : List Bool) (s2 : List Bool) : Nat → Nat → Except Bool Nat
  | 0, x_1 => .ok (x_1)
  | n_2 + 1, x_1 => (if ((x_1 : Nat) : Int) < ((s1.length : Nat) : Int) then (if (!((s1.getD x_1 default) == (s2.getD x_1 default))) = true then .error false else (Iv s1 s2 n_2 (x_1 + 1))) else .ok (x_1))
def T2 (s1 : List Bool) (s2 : List Bool) : Bool := (if ((s1.length : Nat) : Int) ≠ ((s2.length : Nat) : Int) then false else (Bn (Iv s1 s2 (s1.length + 1) 0) (fun r => r) (fun x_1 => true)))
def Qa (s : Ax) (x_1 : Nat) (x_6 : Nat) (x_7 : List Int) : Nat → Nat → Int → Nat × Int
  | 0, x_12, x_13 => (x_12, x_13)
  | n_14 + 1, x_12, x_13 => (if ((x_12 : Nat) : Int) < ((s.used.length : Nat) : Int) then (if (s.used.getD x_12 default) = true then (Qa s x_1 x_6 x_7 n_14 (x_12 + 1) (x_13 - 1)) else (Qa s x_1 x_6 x_7 n_14 (x_12 + 1) x_13)) else (x_12, x_13))
def Ua (s : Ax) (x_1 : Nat) : Nat → Nat → List Int → Except Bool (Nat × (List Int))
  | 0, x_6, x_7 => .ok (x_6, x_7)
  | n_8 + 1, x_6, x_7 => (if ((x_6 : Nat) : Int) < ((s.free.length : Nat) : Int) then (if (s.free.getD x_6 default) < 0 then .error false else (if ((s.used.length : Nat) : Int) ≤ (s.free.getD x_6 default) then .error false else (if (s.used.getD (((s.free.getD x_6 default)).toNat) default) = true then .error false else (if (s.free.getD x_6 default) ∈ x_7 then .error false else (Ua s x_1 n_8 (x_6 + 1) (x_7 ++ [(s.free.getD x_6 default)])))))) else .ok (x_6, x_7))
def Qb (s : Ax) (x_1 : Nat) (x_19 : Nat) (x_20 : List Int) : Nat → Nat → Int → Nat × Int
  | 0, x_25, x_26 => (x_25, x_26)
  | n_27 + 1, x_25, x_26 => (if ((x_25 : Nat) : Int) < ((s.used.length : Nat) : Int) then (if (s.used.getD x_25 default) = true then (Qb s x_1 x_19 x_20 n_27 (x_25 + 1) (x_26 - 1)) else (Qb s x_1 x_19 x_20 n_27 (x_25 + 1) x_26)) else (x_25, x_26))
def Ub (s : Ax) (x_1 : Nat) : Nat → Nat → List Int → Except Bool (Nat × (List Int))
  | 0, x_19, x_20 => .ok (x_19, x_20)
  | n_21 + 1, x_19, x_20 => (if ((x_19 : Nat) : Int) < ((s.free.length : Nat) : Int) then (if (s.free.getD x_19 default) < 0 then .error false else (if ((s.used.length : Nat) : Int) ≤ (s.free.getD x_19 default) then .error false else (if (s.used.getD (((s.free.getD x_19 default)).toNat) default) = true then .error false else (if (s.free.getD x_19 default) ∈ x_20 then .error false else (Ub s x_1 n_21 (x_19 + 1) (x_20 ++ [(s.free.getD x_19 default)])))))) else .ok (x_19, x_20))
def Gn (s : Ax) (x_1 : Nat) (x_32 : Nat) (x_33 : List Int) : Nat → Nat → Int → Nat × Int
  | 0, x_38, x_39 => (x_38, x_39)
  | n_40 + 1, x_38, x_39 => (if ((x_38 : Nat) : Int) < ((s.used.length : Nat) : Int) then (if (s.used.getD x_38 default) = true then (Gn s x_1 x_32 x_33 n_40 (x_38 + 1) (x_39 - 1)) else (Gn s x_1 x_32 x_33 n_40 (x_38 + 1) x_39)) else (x_38, x_39))
def Ex (s : Ax) (x_1 : Nat) : Nat → Nat → List Int → Except Bool (Nat × (List Int))
  | 0, x_32, x_33 => .ok (x_32, x_33)
  | n_34 + 1, x_32, x_33 => (if ((x_32 : Nat) : Int) < ((s.free.length : Nat) : Int) then (if (s.free.getD x_32 default) < 0 then .error false else (if ((s.used.length : Nat) : Int) ≤ (s.free.getD x_32 default) then .error false else (if (s.used.getD (((s.free.getD x_32 default)).toNat) default) = true then .error false else (if (s.free.getD x_32 default) ∈ x_33 then .error false else (Ex s x_1 n_34 (x_32 + 1) (x_33 ++ [(s.free.getD x_32 default)])))))) else .ok (x_32, x_33))
def Fc (s : Ax) : Nat → Nat → Except Bool Nat
  | 0, x_1 => .ok (x_1)
  | n_2 + 1, x_1 => (if ((x_1 : Nat) : Int) < ((s.gens.length : Nat) : Int) then (if (s.gens.getD x_1 default) < 0 then .error (if ¬ (¬ (0 ≤ ((x_1 : Nat) : Int))) then false else (Gz (Ua s x_1 (s.free.length + 1) 0 ([] : List Int)) (fun r => r) (fun x_6 x_7 => (It (Qa s x_1 x_6 x_7 (s.used.length + 1) 0 ((s.gens.length : Nat) : Int)) (fun x_12 x_13 => (if ¬ (x_13 = ((x_7.length : Nat) : Int)) then false else true)))))) else (if 1000000000 < (s.gens.getD x_1 default) then .error (if ¬ (¬ (0 ≤ ((x_1 : Nat) : Int))) then false else (Gz (Ub s x_1 (s.free.length + 1) 0 ([] : List Int)) (fun r => r) (fun x_19 x_20 => (It (Qb s x_1 x_19 x_20 (s.used.length + 1) 0 ((s.gens.length : Nat) : Int)) (fun x_25 x_26 => (if ¬ (x_26 = ((x_20.length : Nat) : Int)) then false else true)))))) else (Fc s n_2 (x_1 + 1)))) else .ok (x_1))
def Ep (s : Ax) : Bool := (if 1 ≤ ((s.gens.length : Nat) : Int) then (if ((s.gens.length : Nat) : Int) ≤ 64 then (if ¬ (((s.used.length : Nat) : Int) = ((s.gens.length : Nat) : Int)) then false else (Bn (Fc s (s.gens.length + 1) 0) (fun r => r) (fun x_1 => (Gz (Ex s x_1 (s.free.length + 1) 0 ([] : List Int)) (fun r => r) (fun x_32 x_33 => (It (Gn s x_1 x_32 x_33 (s.used.length + 1) 0 ((s.gens.length : Nat) : Int)) (fun x_38 x_39 => (if ¬ (x_39 = ((x_33.length : Nat) : Int)) then false else true)))))))) else false) else false)
def Hj (s : Ax) : Nat → Nat → List Ar → Nat × (List Ar)
  | 0, x_1, x_2 => (x_1, x_2)
  | n_3 + 1, x_1, x_2 => (if ((x_1 : Nat) : Int) < ((s.used.length : Nat) : Int) then (if (s.used.getD x_1 default) = true then (Hj s n_3 (x_1 + 1) (x_2 ++ ([(Ar.mk ((x_1 : Nat) : Int) (s.gens.getD x_1 default))] : List Ar))) else (Hj s n_3 (x_1 + 1) x_2)) else (x_1, x_2))
def Dx (s : Ax) : List Ar := (if (!(Ep s)) = true then [] else (It (Hj s (s.used.length + 1) 0 []) (fun x_1 x_2 => x_2)))
def Hd (s : Ax) (h : Ar) : Nat → Nat → Except Bool Nat
  | 0, x_1 => .ok (x_1)
  | n_2 + 1, x_1 => (if ((x_1 : Nat) : Int) < ((((Dx s).length) : Nat) : Int) then (if (((Dx s).getD x_1 default).slot) = h.slot ∧ (((Dx s).getD x_1 default).gen) = h.gen then .error true else (Hd s h n_2 (x_1 + 1))) else .ok (x_1))
def Ss (s : Ax) (h : Ar) : Bool := (Bn (Hd s h (((Dx s).length) + 1) 0) (fun r => r) (fun x_1 => false))
def Ch (s : Ax) : Ax × Ar × Int := (if (!(Ep s)) = true then ((Ax.mk ([]) ([]) ([])), (Ar.mk 0 0), 90) else (if (((((s.free).length) : Nat) : Int) - 1) < 0 then ((Ax.mk ([]) ([]) ([])), (Ar.mk 0 0), 92) else (if (s.gens.getD ((((s.free).getD (((((((s.free).length) : Nat) : Int) - 1)).toNat) default)).toNat) default) = 1000000000 then ((Ax.mk ([]) ([]) ([])), (Ar.mk 0 0), 92) else ((Ax.mk (s.gens.set ((((s.free).getD (((((((s.free).length) : Nat) : Int) - 1)).toNat) default)).toNat) ((s.gens.getD ((((s.free).getD (((((((s.free).length) : Nat) : Int) - 1)).toNat) default)).toNat) default) + 1)) ((s.used).set ((((s.free).getD (((((((s.free).length) : Nat) : Int) - 1)).toNat) default)).toNat) true) ((s.free).take (((((((s.free).length) : Nat) : Int) - 1)).toNat))), (Ar.mk ((s.free).getD (((((((s.free).length) : Nat) : Int) - 1)).toNat) default) ((s.gens.set ((((s.free).getD (((((((s.free).length) : Nat) : Int) - 1)).toNat) default)).toNat) ((s.gens.getD ((((s.free).getD (((((((s.free).length) : Nat) : Int) - 1)).toNat) default)).toNat) default) + 1)).getD ((((s.free).getD (((((((s.free).length) : Nat) : Int) - 1)).toNat) default)).toNat) default)), 0))))
def Ft (s : Ax) (h : Ar) : Ax × Int := (if (!(Ep s)) = true then ((Ax.mk ([]) ([]) ([])), 90) else (if (!(Ss s h)) = true then ((Ax.mk ([]) ([]) ([])), 91) else ((Ax.mk s.gens ((s.used).set ((h.slot).toNat) false) ((s.free) ++ ([h.slot] : List Int))), 0)))
def Qm (n_ : Int) (x_1 : List Int) (x_2 : List Bool) : Nat → Nat → List Int → Nat × (List Int)
  | 0, x_6, x_7 => (x_6, x_7)
  | n_8 + 1, x_6, x_7 => (if ((x_6 : Nat) : Int) < n_ then (Qm n_ x_1 x_2 n_8 (x_6 + 1) (x_7 ++ ([((n_ - 1) - ((x_6 : Nat) : Int))] : List Int))) else (x_6, x_7))
def Wi (n_ : Int) : Ax × Int := (if n_ < 1 then ((Ax.mk ([]) ([]) ([])), 2) else (if 64 < n_ then ((Ax.mk ([]) ([]) ([])), 2) else (It ((List.replicate ((n_).toNat) (default : Int)), (List.replicate ((n_).toNat) (default : Bool))) (fun x_1 x_2 => (It (Qm n_ x_1 x_2 ((n_ - ((0 : Nat) : Int)).toNat + 1) 0 []) (fun x_6 x_7 => ((Ax.mk x_1 x_2 x_7), 0)))))))
def dS (a : Ax) (b : Ax) : Bool := (if (K2 a.gens b.gens) = true then (if (T2 a.used b.used) = true then (K2 a.free b.free) else false) else false)
end Go.Proofs.YtopjaeoklkpcpaaGreatDoor.Jd

namespace Go.Proofs.YtopjaeoklkpcpaaGreatDoor.Jd
open Go.Proofs.Tryz
open Go.Proofs
open Go.RowKit (Below)
set_option maxRecDepth 100000
set_option maxHeartbeats 8000000
set_option linter.unusedVariables false
set_option linter.unusedSimpArgs false
def Nd (r : Int) : Int := (if r = 3 then (xF .i64 (xF .i64 (xF .i64 0 4) 2) 1) else (if r = 2 then (xF .i64 (xF .i64 0 2) 1) else (if r = 1 then (xF .i64 0 1) else 0)))
def El (n_ : Int) : List Int := (if (Uz .i64 (Nd n_) 4) ≠ 0 then (if (Uz .i64 (Nd n_) 2) ≠ 0 then (if (Uz .i64 (Nd n_) 1) ≠ 0 then (((((((((([1] : List Int) ++ ([2] : List Int)) ++ ([3] : List Int)) ++ ([4] : List Int)) ++ ([5] : List Int)) ++ ([6] : List Int)) ++ ([7] : List Int)) ++ ([8] : List Int)) ++ ([9] : List Int)) ++ ([10] : List Int)) else (((((((([1] : List Int) ++ ([2] : List Int)) ++ ([3] : List Int)) ++ ([4] : List Int)) ++ ([5] : List Int)) ++ ([6] : List Int)) ++ ([7] : List Int)) ++ ([8] : List Int))) else (if (Uz .i64 (Nd n_) 1) ≠ 0 then (((((([1] : List Int) ++ ([5] : List Int)) ++ ([6] : List Int)) ++ ([7] : List Int)) ++ ([9] : List Int)) ++ ([10] : List Int)) else (((([1] : List Int) ++ ([5] : List Int)) ++ ([6] : List Int)) ++ ([7] : List Int)))) else (if (Uz .i64 (Nd n_) 2) ≠ 0 then (if (Uz .i64 (Nd n_) 1) ≠ 0 then (((((([2] : List Int) ++ ([3] : List Int)) ++ ([4] : List Int)) ++ ([8] : List Int)) ++ ([9] : List Int)) ++ ([10] : List Int)) else (((([2] : List Int) ++ ([3] : List Int)) ++ ([4] : List Int)) ++ ([8] : List Int))) else (if (Uz .i64 (Nd n_) 1) ≠ 0 then (([9] : List Int) ++ ([10] : List Int)) else [])))
def Qc (n_ : Int) (v : Int) : Nat → Nat → Except Bool Nat
  | 0, x_1 => .ok (x_1)
  | n_2 + 1, x_1 => (if ((x_1 : Nat) : Int) < ((((El n_).length) : Nat) : Int) then (if ((El n_).getD x_1 default) = v then .error true else (Qc n_ v n_2 (x_1 + 1))) else .ok (x_1))
def Od (n_ : Int) (v : Int) : Bool := (Bn (Qc n_ v (((El n_).length) + 1) 0) (fun r => r) (fun x_1 => false))
end Go.Proofs.YtopjaeoklkpcpaaGreatDoor.Jd

namespace Go.Proofs.YtopjaeoklkpcpaaGreatDoor.Jd
open Go.Proofs.Tryz
open Go.Proofs
open Go.RowKit (Below)
set_option maxRecDepth 100000
set_option maxHeartbeats 8000000
set_option linter.unusedVariables false
set_option linter.unusedSimpArgs false
structure Bw where
  id : Int
  key : Ap
  frm : Int
  to : Int
instance : Inhabited Bw := ⟨⟨default, default, default, default⟩⟩
instance : DecidableEq Bw := fun a b => decidable_of_iff (a.id = b.id ∧ a.key = b.key ∧ a.frm = b.frm ∧ a.to = b.to) ⟨fun h => by cases a; cases b; simp_all, fun h => by subst h; simp⟩
def Qn (key : Ap) : Bool := (if 1 ≤ ((key.length : Nat) : Int) then decide (((key.length : Nat) : Int) ≤ 64) else false)
def Lw (n_ : Int) (least : Int) (most : Int) : Bool := (if least ≤ n_ then decide (n_ ≤ most) else false)
def aJ (c : Bw) : Bool := (Lw c.id 1 1000000000)
def St (c : Bw) : Bool := (Qn c.key)
def Oe (c : Bw) : Bool := (if 0 ≤ c.frm then (if c.frm < c.to then decide (c.to ≤ 1000000000000) else false) else false)
def Mg (l : List Bw) (x_1 : Nat) (last_2 : Int) (x_3 : List Int) : Nat → Nat → Except Bool Nat
  | 0, x_8 => .ok (x_8)
  | n_9 + 1, x_8 => (if ((x_8 : Nat) : Int) < ((l.length : Nat) : Int) then (if (!(aJ (l.getD x_8 default))) = true then .error false else (if (!(St (l.getD x_8 default))) = true then .error false else (if (!(Oe (l.getD x_8 default))) = true then .error false else (Mg l x_1 last_2 x_3 n_9 (x_8 + 1))))) else .ok (x_8))
def Km (l : List Bw) : Nat → Nat → Int → List Int → Except Bool (Nat × Int × (List Int))
  | 0, x_1, last_2, x_3 => .ok (x_1, last_2, x_3)
  | n_4 + 1, x_1, last_2, x_3 => (if ((x_1 : Nat) : Int) < ((l.length : Nat) : Int) then (if ((l.getD x_1 default).id) ∈ x_3 then .error false else (if ((l.getD x_1 default).id) < last_2 then .error false else (Km l n_4 (x_1 + 1) ((l.getD x_1 default).id) (x_3 ++ [((l.getD x_1 default).id)])))) else .ok (x_1, last_2, x_3))
def Kd (l : List Bw) : Bool := (aF (Km l (l.length + 1) 0 0 ([] : List Int)) (fun r => r) (fun x_1 last_2 x_3 => (if ((l.length : Nat) : Int) ≤ 4 then (Bn (Mg l x_1 last_2 x_3 (l.length + 1) 0) (fun r => r) (fun x_8 => true)) else false)))
def Ib (l : List Bw) (key : Ap) (now : Int) (overlap : Int) (span : Int) : Nat → Nat → List Bw → Int → Nat × (List Bw) × Int
  | 0, x_1, out_2, x_3 => (x_1, out_2, x_3)
  | n_4 + 1, x_1, out_2, x_3 => (if ((x_1 : Nat) : Int) < ((l.length : Nat) : Int) then (if ((l.getD x_1 default).to) ≤ now then (Ib l key now overlap span n_4 (x_1 + 1) out_2 (((l.getD x_1 default).id) + 1)) else (if ((l.getD x_1 default).frm) < (if (now + overlap) < ((l.getD x_1 default).to) then (now + overlap) else ((l.getD x_1 default).to)) then (Ib l key now overlap span n_4 (x_1 + 1) (out_2 ++ ([(Bw.mk ((l.getD x_1 default).id) ((l.getD x_1 default).key) ((l.getD x_1 default).frm) (if (now + overlap) < ((l.getD x_1 default).to) then (now + overlap) else ((l.getD x_1 default).to)))] : List Bw)) (((l.getD x_1 default).id) + 1)) else (Ib l key now overlap span n_4 (x_1 + 1) out_2 (((l.getD x_1 default).id) + 1)))) else (x_1, out_2, x_3))
def Fg (l : List Bw) (key : Ap) (now : Int) (overlap : Int) (span : Int) : (List Bw) × Int × Int := (if (!(Kd l)) = true then ([], 0, 110) else (if (!(Qn key)) = true then ([], 0, 50) else (if (!(Lw now 0 1000000000000)) = true then ([], 0, 2) else (if (!(Lw overlap 0 1000000000)) = true then ([], 0, 2) else (if (!(Lw span 1 1000000000)) = true then ([], 0, 2) else (if 1000000000000 < (now + span) then ([], 0, 2) else (gG (Ib l key now overlap span (l.length + 1) 0 [] 1) (fun x_1 out_2 x_3 => (if 4 < ((((out_2 ++ ([(Bw.mk x_3 key now (now + span))] : List Bw)).length) : Nat) : Int) then ([], 0, 92) else (if 1000000000 < x_3 then ([], 0, 92) else ((out_2 ++ ([(Bw.mk x_3 key now (now + span))] : List Bw)), x_3, 0)))))))))))
end Go.Proofs.YtopjaeoklkpcpaaGreatDoor.Jd

namespace Go.Proofs.YtopjaeoklkpcpaaGreatDoor.Jd
open Go.Proofs.Tryz
open Go.Proofs
open Go.RowKit (Below)
set_option maxRecDepth 100000
set_option linter.unusedVariables false
set_option linter.unusedSimpArgs false
structure An where
  addr : Int
  bits : Int
instance : Inhabited An := ⟨⟨default, default⟩⟩
instance : DecidableEq An := fun a b => decidable_of_iff (a.addr = b.addr ∧ a.bits = b.bits) ⟨fun h => by cases a; cases b; simp_all, fun h => by subst h; simp⟩
def Uc (a : Int) : Bool := (if 0 ≤ a then decide (a ≤ 4294967295) else false)
def Qo (a : Int) : Bool := (if 0 ≤ a then decide (a ≤ 4294967295) else false)
def Og (bits : Int) : Int := (kC .i64 1 (32 - bits))
def rRight (p : An) : Bool := (if 0 ≤ p.bits then (if p.bits ≤ 32 then (if (Uc p.addr) = true then decide ((p.addr % (Og p.bits)) = 0) else false) else false) else false)
def rV (p : An) : Int := ((kC .i64 1 (32 - p.bits)) - 1)
def Pb (p : An) : Bool := (if 0 ≤ p.bits then (if p.bits ≤ 32 then (Qo p.addr) else false) else false)
def iB (p : An) : Bool := decide ((Uz .i64 p.addr (rV p)) = 0)
def Nf (p : An) : Bool := (if (!(Pb p)) = true then false else (if (!(iB p)) = true then false else true))
def Wj (a : Int) : Ap × Int := (if (!(Qo a)) = true then (([] : Ap), 60) else ((Lib.join (((([(Lib.itoa (Uz .i64 (S0 .i64 a 24) 255))] : List Ap) ++ ([(Lib.itoa (Uz .i64 (S0 .i64 a 16) 255))] : List Ap)) ++ ([(Lib.itoa (Uz .i64 (S0 .i64 a 8) 255))] : List Ap)) ++ ([(Lib.itoa (Uz .i64 (S0 .i64 a 0) 255))] : List Ap)) ([46] : Ap)), 0))
def Wk (t : Ap) (most : Int) : Nat → Int → Nat → Except (Int × Bool) (Int × Nat)
  | 0, n_1, x_2 => .ok (n_1, x_2)
  | n_3 + 1, n_1, x_2 => (if x_2 < t.length then (if (((bN t x_2).1 : Nat) : Int) < 48 then .error (0, false) else (if 57 < (((bN t x_2).1 : Nat) : Int) then .error (0, false) else (if most < n_1 then .error (0, false) else (Wk t most n_3 ((n_1 * 10) + ((((bN t x_2).1 : Nat) : Int) - 48)) (x_2 + (bN t x_2).2))))) else .ok (n_1, x_2))
def Ic (t : Ap) (most : Int) : Int × Bool := (Gz (Wk t most (t.length + 1) 0 0) (fun r => r) (fun n_1 x_2 => (if n_1 ≤ most then (n_1, decide ((Lib.itoa n_1) = t)) else (n_1, false))))
def Hr (s : Ap) : Int × Int := (if ((Ic ((Lib.cut s ([46] : Ap)).1) 255).2) = true then (if (!((Lib.cut s ([46] : Ap)).2.2 == true)) = true then (0, 60) else (if ((Ic ((Lib.cut ((Lib.cut s ([46] : Ap)).2.1) ([46] : Ap)).1) 255).2) = true then (if (!((Lib.cut ((Lib.cut s ([46] : Ap)).2.1) ([46] : Ap)).2.2 == true)) = true then (0, 60) else (if ((Ic ((Lib.cut ((Lib.cut ((Lib.cut s ([46] : Ap)).2.1) ([46] : Ap)).2.1) ([46] : Ap)).1) 255).2) = true then (if (!((Lib.cut ((Lib.cut ((Lib.cut s ([46] : Ap)).2.1) ([46] : Ap)).2.1) ([46] : Ap)).2.2 == true)) = true then (0, 60) else (if ((Ic ((Lib.cut ((Lib.cut ((Lib.cut ((Lib.cut s ([46] : Ap)).2.1) ([46] : Ap)).2.1) ([46] : Ap)).2.1) ([46] : Ap)).1) 255).2) = true then (if (!((Lib.cut ((Lib.cut ((Lib.cut ((Lib.cut s ([46] : Ap)).2.1) ([46] : Ap)).2.1) ([46] : Ap)).2.1) ([46] : Ap)).2.2 == false)) = true then (0, 60) else ((xF .i64 (kC .i64 (xF .i64 (kC .i64 (xF .i64 (kC .i64 (xF .i64 (kC .i64 0 8) ((Ic ((Lib.cut s ([46] : Ap)).1) 255).1)) 8) ((Ic ((Lib.cut ((Lib.cut s ([46] : Ap)).2.1) ([46] : Ap)).1) 255).1)) 8) ((Ic ((Lib.cut ((Lib.cut ((Lib.cut s ([46] : Ap)).2.1) ([46] : Ap)).2.1) ([46] : Ap)).1) 255).1)) 8) ((Ic ((Lib.cut ((Lib.cut ((Lib.cut ((Lib.cut s ([46] : Ap)).2.1) ([46] : Ap)).2.1) ([46] : Ap)).2.1) ([46] : Ap)).1) 255).1)), 0)) else (0, 60))) else (0, 60))) else (0, 60))) else (0, 60))
def Ma (s : Ap) : An × Int := (if (!((Ic ((Lib.cut s ([47] : Ap)).2.1) 32).2)) = true then ((An.mk 0 0), 61) else (if ((Hr ((Lib.cut s ([47] : Ap)).1)).2) ≠ 0 then ((An.mk 0 0), 61) else (if (!(Nf (An.mk ((Hr ((Lib.cut s ([47] : Ap)).1)).1) ((Ic ((Lib.cut s ([47] : Ap)).2.1) 32).1)))) = true then ((An.mk 0 0), 61) else ((An.mk ((Hr ((Lib.cut s ([47] : Ap)).1)).1) ((Ic ((Lib.cut s ([47] : Ap)).2.1) 32).1)), 0))))
end Go.Proofs.YtopjaeoklkpcpaaGreatDoor.Jd

namespace Go.Proofs.YtopjaeoklkpcpaaGreatDoor.Jd
open Go.Proofs.Tryz
open Go.Proofs
open Go.RowKit (Below)
set_option maxRecDepth 100000
set_option linter.unusedVariables false
set_option linter.unusedSimpArgs false
structure Al where
  lo : Int
  hi : Int
instance : Inhabited Al := ⟨⟨default, default⟩⟩
instance : DecidableEq Al := fun a b => decidable_of_iff (a.lo = b.lo ∧ a.hi = b.hi) ⟨fun h => by cases a; cases b; simp_all, fun h => by subst h; simp⟩
structure Pc where
  addr : Int
  port : Int
instance : Inhabited Pc := ⟨⟨default, default⟩⟩
instance : DecidableEq Pc := fun a b => decidable_of_iff (a.addr = b.addr ∧ a.port = b.port) ⟨fun h => by cases a; cases b; simp_all, fun h => by subst h; simp⟩
def Oh (p : Al) : Bool := (if 0 ≤ p.lo then (if p.lo ≤ p.hi then decide (p.hi ≤ 65535) else false) else false)
def Qp (p : Al) : Bool := (if ¬ (p.lo ≤ p.hi) then false else (if ¬ (0 ≤ p.lo) then false else (if ¬ (p.hi ≤ 65535) then false else true)))
def Hs (p : Al) : Ap × Int := (if (!(Qp p)) = true then (([] : Ap), 70) else (if p.lo = 0 ∧ p.hi = 65535 then (([42] : Ap), 0) else (if p.lo = p.hi then ((Lib.itoa p.lo), 0) else ((((Lib.itoa p.lo) ++ ([45] : Ap)) ++ (Lib.itoa p.hi)), 0))))
def dT (t : Ap) : Nat → Int → Nat → Except Int (Int × Nat)
  | 0, n_1, x_2 => .ok (n_1, x_2)
  | n_3 + 1, n_1, x_2 => (if x_2 < t.length then (if ((n_1 * 10) + ((((bN t x_2).1 : Nat) : Int) - 48)) < 0 then .error (-1) else (if 65535 < ((n_1 * 10) + ((((bN t x_2).1 : Nat) : Int) - 48)) then .error (-1) else (dT t n_3 ((n_1 * 10) + ((((bN t x_2).1 : Nat) : Int) - 48)) (x_2 + (bN t x_2).2)))) else .ok (n_1, x_2))
def Cd (t : Ap) : Int := (Gz (dT t (t.length + 1) 0 0) (fun r => r) (fun n_1 x_2 => n_1))
def Zo (s : Ap) : Al × Int := (if ((Hs (Al.mk 0 65535)).2) = 0 then (if ((Hs (Al.mk 0 65535)).1) = s then ((Al.mk 0 65535), 0) else (if ((Hs (Al.mk (Cd s) (Cd s))).2) = 0 then (if ((Hs (Al.mk (Cd s) (Cd s))).1) = s then ((Al.mk (Cd s) (Cd s)), 0) else (if ((Hs (Al.mk (Cd ((Lib.cut s ([45] : Ap)).1)) (Cd ((Lib.cut s ([45] : Ap)).2.1)))).2) = 0 then (if ((Hs (Al.mk (Cd ((Lib.cut s ([45] : Ap)).1)) (Cd ((Lib.cut s ([45] : Ap)).2.1)))).1) = s then ((Al.mk (Cd ((Lib.cut s ([45] : Ap)).1)) (Cd ((Lib.cut s ([45] : Ap)).2.1))), 0) else ((Al.mk 0 0), 70)) else ((Al.mk 0 0), 70))) else (if ((Hs (Al.mk (Cd ((Lib.cut s ([45] : Ap)).1)) (Cd ((Lib.cut s ([45] : Ap)).2.1)))).2) = 0 then (if ((Hs (Al.mk (Cd ((Lib.cut s ([45] : Ap)).1)) (Cd ((Lib.cut s ([45] : Ap)).2.1)))).1) = s then ((Al.mk (Cd ((Lib.cut s ([45] : Ap)).1)) (Cd ((Lib.cut s ([45] : Ap)).2.1))), 0) else ((Al.mk 0 0), 70)) else ((Al.mk 0 0), 70)))) else (if ((Hs (Al.mk (Cd s) (Cd s))).2) = 0 then (if ((Hs (Al.mk (Cd s) (Cd s))).1) = s then ((Al.mk (Cd s) (Cd s)), 0) else (if ((Hs (Al.mk (Cd ((Lib.cut s ([45] : Ap)).1)) (Cd ((Lib.cut s ([45] : Ap)).2.1)))).2) = 0 then (if ((Hs (Al.mk (Cd ((Lib.cut s ([45] : Ap)).1)) (Cd ((Lib.cut s ([45] : Ap)).2.1)))).1) = s then ((Al.mk (Cd ((Lib.cut s ([45] : Ap)).1)) (Cd ((Lib.cut s ([45] : Ap)).2.1))), 0) else ((Al.mk 0 0), 70)) else ((Al.mk 0 0), 70))) else (if ((Hs (Al.mk (Cd ((Lib.cut s ([45] : Ap)).1)) (Cd ((Lib.cut s ([45] : Ap)).2.1)))).2) = 0 then (if ((Hs (Al.mk (Cd ((Lib.cut s ([45] : Ap)).1)) (Cd ((Lib.cut s ([45] : Ap)).2.1)))).1) = s then ((Al.mk (Cd ((Lib.cut s ([45] : Ap)).1)) (Cd ((Lib.cut s ([45] : Ap)).2.1))), 0) else ((Al.mk 0 0), 70)) else ((Al.mk 0 0), 70))))
def Zp (t : Pc) : Ap × Int := (if ((Wj t.addr).2) ≠ 0 then (([] : Ap), 71) else (if t.port < 1 then (([] : Ap), 71) else (if 65535 < t.port then (([] : Ap), 71) else (((((Wj t.addr).1) ++ ([58] : Ap)) ++ (Lib.itoa t.port)), 0))))
def kI (s : Ap) : Pc × Int := (if ((Hr ((Lib.cut s ([58] : Ap)).1)).2) ≠ 0 then ((Pc.mk 0 0), 71) else (if ((Zp (Pc.mk ((Hr ((Lib.cut s ([58] : Ap)).1)).1) (Cd ((Lib.cut s ([58] : Ap)).2.1)))).2) ≠ 0 then ((Pc.mk 0 0), 71) else (if ((Zp (Pc.mk ((Hr ((Lib.cut s ([58] : Ap)).1)).1) (Cd ((Lib.cut s ([58] : Ap)).2.1)))).1) ≠ s then ((Pc.mk 0 0), 71) else ((Pc.mk ((Hr ((Lib.cut s ([58] : Ap)).1)).1) (Cd ((Lib.cut s ([58] : Ap)).2.1))), 0))))
end Go.Proofs.YtopjaeoklkpcpaaGreatDoor.Jd

namespace Go.Proofs.YtopjaeoklkpcpaaGreatDoor.Jd
open Go.Proofs.Tryz
open Go.Proofs
open Go.RowKit (Below)
set_option maxRecDepth 100000
set_option maxHeartbeats 8000000
set_option linter.unusedVariables false
set_option linter.unusedSimpArgs false
def Jh (s : Ap) : Nat → Nat → Except Bool Nat
  | 0, x_1 => .ok (x_1)
  | n_2 + 1, x_1 => (if x_1 < s.length then (if (((bN s x_1).1 : Nat) : Int) < 32 then .error false else (if 126 < (((bN s x_1).1 : Nat) : Int) then .error false else (Jh s n_2 (x_1 + (bN s x_1).2)))) else .ok (x_1))
def Yb (s : Ap) : Bool := (Bn (Jh s (s.length + 1) 0) (fun r => r) (fun x_1 => true))
structure Bf where
  allow : Bool
  pfx : An
  prt : Al
instance : Inhabited Bf := ⟨⟨default, default, default⟩⟩
instance : DecidableEq Bf := fun a b => decidable_of_iff (a.allow = b.allow ∧ a.pfx = b.pfx ∧ a.prt = b.prt) ⟨fun h => by cases a; cases b; simp_all, fun h => by subst h; simp⟩
def Ke (r : Bf) : Bool := (if (Nf r.pfx) = true then (Qp r.prt) else false)
def Ht (l : List Bf) : Nat → Nat → Except Bool Nat
  | 0, x_1 => .ok (x_1)
  | n_2 + 1, x_1 => (if ((x_1 : Nat) : Int) < ((l.length : Nat) : Int) then (if (!(Ke (l.getD x_1 default))) = true then .error false else (Ht l n_2 (x_1 + 1))) else .ok (x_1))
def Ik (l : List Bf) : Bool := (if ((l.length : Nat) : Int) ≤ 16 then (Bn (Ht l (l.length + 1) 0) (fun r => r) (fun x_1 => true)) else false)
def De (l : List Bf) (at_ : Int) (r : Bf) : (List Bf) × Int := (if (!(Ik l)) = true then ([], 81) else (if (!(Ke r)) = true then ([], 80) else (if at_ < 0 then ([], 82) else (if ((l.length : Nat) : Int) < at_ then ([], 82) else (if 16 ≤ ((l.length : Nat) : Int) then ([], 82) else ((Py (l) at_.toNat r), 0))))))
def Dk (l : List Bf) (at_ : Int) : (List Bf) × Int := (if (!(Ik l)) = true then ([], 81) else (if at_ < 0 then ([], 82) else (if ((l.length : Nat) : Int) ≤ at_ then ([], 82) else ((delL (l) at_.toNat (at_ + 1).toNat), 0))))
def mS (r : Bf) : Bool := (if (rRight r.pfx) = true then (Oh r.prt) else false)
def Iw (l : List Bf) : Nat → Nat → Except Bool Nat
  | 0, i_1 => .ok (i_1)
  | n_2 + 1, i_1 => (if ((i_1 : Nat) : Int) < ((l.length : Nat) : Int) then (if (!(mS (l.getD i_1 default))) = true then .error false else (Iw l n_2 (i_1 + 1))) else .ok (i_1))
def Qq (l : List Bf) : Bool := (Bn (Iw l (l.length + 1) 0) (fun r => r) (fun i_1 => decide (((l.length : Nat) : Int) ≤ 16)))
def Ji (a : List Bf) (b : List Bf) : Nat → Nat → Except Bool Nat
  | 0, i_1 => .ok (i_1)
  | n_2 + 1, i_1 => (if ((i_1 : Nat) : Int) < ((a.length : Nat) : Int) then (if ¬ (((a.getD i_1 default).allow) = ((b.getD i_1 default).allow) ∧ ((a.getD i_1 default).pfx.addr) = ((b.getD i_1 default).pfx.addr) ∧ ((a.getD i_1 default).pfx.bits) = ((b.getD i_1 default).pfx.bits) ∧ ((a.getD i_1 default).prt.lo) = ((b.getD i_1 default).prt.lo) ∧ ((a.getD i_1 default).prt.hi) = ((b.getD i_1 default).prt.hi)) then .error false else (Ji a b n_2 (i_1 + 1))) else .ok (i_1))
def dU (a : List Bf) (b : List Bf) : Bool := (if ((a.length : Nat) : Int) ≠ ((b.length : Nat) : Int) then false else (Bn (Ji a b (a.length + 1) 0) (fun r => r) (fun i_1 => true)))
def Jj (l : List Bf) : List Bf := (l.take (min l.length 18))
end Go.Proofs.YtopjaeoklkpcpaaGreatDoor.Jd

namespace Go.Proofs.YtopjaeoklkpcpaaGreatDoor.Jd
open Go.Proofs.Tryz
open Go.Proofs
open Go.RowKit (Below)
set_option maxRecDepth 100000
set_option maxHeartbeats 8000000
set_option linter.unusedVariables false
set_option linter.unusedSimpArgs false
def Qr (key : Ap) : Bool := (if 1 ≤ ((key.length : Nat) : Int) then decide (((key.length : Nat) : Int) ≤ 64) else false)
def Fd (l : List Bw) : Nat → Nat → Except Bool Nat
  | 0, i_1 => .ok (i_1)
  | n_2 + 1, i_1 => (if ((i_1 : Nat) : Int) < ((l.length : Nat) : Int) then (if ((l.getD i_1 default).id) < 1 then .error false else (if 1000000000 < ((l.getD i_1 default).id) then .error false else (if 0 < ((i_1 : Nat) : Int) then (if ((l.getD i_1 default).id) ≤ ((l.getD (((((i_1 : Nat) : Int) - 1)).toNat) default).id) then .error false else (if (!(Qr ((l.getD i_1 default).key))) = true then .error false else (if ((l.getD i_1 default).frm) < 0 then .error false else (if ((l.getD i_1 default).to) ≤ ((l.getD i_1 default).frm) then .error false else (if 1000000000000 < ((l.getD i_1 default).to) then .error false else (Fd l n_2 (i_1 + 1))))))) else (if (!(Qr ((l.getD i_1 default).key))) = true then .error false else (if ((l.getD i_1 default).frm) < 0 then .error false else (if ((l.getD i_1 default).to) ≤ ((l.getD i_1 default).frm) then .error false else (if 1000000000000 < ((l.getD i_1 default).to) then .error false else (Fd l n_2 (i_1 + 1))))))))) else .ok (i_1))
def Oi (l : List Bw) : Bool := (Bn (Fd l (l.length + 1) 0) (fun r => r) (fun i_1 => decide (((l.length : Nat) : Int) ≤ 4)))
def Jk (a : List Bw) (b : List Bw) : Nat → Nat → Except Bool Nat
  | 0, i_1 => .ok (i_1)
  | n_2 + 1, i_1 => (if ((i_1 : Nat) : Int) < ((a.length : Nat) : Int) then (if ¬ (((a.getD i_1 default).id) = ((b.getD i_1 default).id) ∧ ((a.getD i_1 default).key) = ((b.getD i_1 default).key) ∧ ((a.getD i_1 default).frm) = ((b.getD i_1 default).frm) ∧ ((a.getD i_1 default).to) = ((b.getD i_1 default).to)) then .error false else (Jk a b n_2 (i_1 + 1))) else .ok (i_1))
def dV (a : List Bw) (b : List Bw) : Bool := (if ((a.length : Nat) : Int) ≠ ((b.length : Nat) : Int) then false else (Bn (Jk a b (a.length + 1) 0) (fun r => r) (fun i_1 => true)))
def Kn (s : Ap) : Nat → Nat → Except Bool Nat
  | 0, i_1 => .ok (i_1)
  | n_2 + 1, i_1 => (if ((i_1 : Nat) : Int) < ((s.length : Nat) : Int) then (if (((s.getD i_1 default).toNat : Nat) : Int) < 32 then .error false else (if 126 < (((s.getD i_1 default).toNat : Nat) : Int) then .error false else (Kn s n_2 (i_1 + 1)))) else .ok (i_1))
def cA (s : Ap) : Bool := (Bn (Kn s (s.length + 1) 0) (fun r => r) (fun i_1 => true))
def Yc (s : Ap) : Bool := (if ((s.length : Nat) : Int) ≤ 64 then (cA s) else false)
def Jl (a : List Ap) (b : List Ap) : Nat → Nat → Except Bool Nat
  | 0, i_1 => .ok (i_1)
  | n_2 + 1, i_1 => (if ((i_1 : Nat) : Int) < ((a.length : Nat) : Int) then (if (a.getD i_1 default) ≠ (b.getD i_1 default) then .error false else (Jl a b n_2 (i_1 + 1))) else .ok (i_1))
def Zq (a : List Ap) (b : List Ap) : Bool := (if ((a.length : Nat) : Int) ≠ ((b.length : Nat) : Int) then false else (Bn (Jl a b (a.length + 1) 0) (fun r => r) (fun i_1 => true)))
end Go.Proofs.YtopjaeoklkpcpaaGreatDoor.Jd

namespace Go.Proofs.YtopjaeoklkpcpaaGreatDoor.Jd
open Go.Proofs.Tryz
open Go.Proofs
open Go.RowKit (Below)
set_option maxRecDepth 100000
set_option maxHeartbeats 8000000
set_option linter.unusedVariables false
set_option linter.unusedSimpArgs false
def dW (s : Ap) : Bool := (if ((s.length : Nat) : Int) ≤ 64 then (Yb s) else false)
end Go.Proofs.YtopjaeoklkpcpaaGreatDoor.Jd

namespace Go.Proofs.YtopjaeoklkpcpaaGreatDoor.Jd
open Go.Proofs.Tryz
open Go.Proofs
open Go.RowKit (Below)
set_option maxRecDepth 100000
set_option maxHeartbeats 8000000
set_option linter.unusedVariables false
set_option linter.unusedSimpArgs false
structure Aa where
  handle : Ar
  name : Ap
  state : Int
  version : Int
  rules : List Bf
  creds : List Bw
  deadline : Int
instance : Inhabited Aa := ⟨⟨default, default, default, default, default, default, default⟩⟩
instance : DecidableEq Aa := fun a b => decidable_of_iff (a.handle = b.handle ∧ a.name = b.name ∧ a.state = b.state ∧ a.version = b.version ∧ a.rules = b.rules ∧ a.creds = b.creds ∧ a.deadline = b.deadline) ⟨fun h => by cases a; cases b; simp_all, fun h => by subst h; simp⟩
structure Ac where
  slots : Ax
  l : List Aa
  seq : Int
instance : Inhabited Ac := ⟨⟨default, default, default⟩⟩
instance : DecidableEq Ac := fun a b => decidable_of_iff (a.slots = b.slots ∧ a.l = b.l ∧ a.seq = b.seq) ⟨fun h => by cases a; cases b; simp_all, fun h => by subst h; simp⟩
structure Ak where
  verb : Int
  name : Ap
  want : Int
  at_ : Int
  rule : Bf
  key : Ap
  n : Int
  m : Int
instance : Inhabited Ak := ⟨⟨default, default, default, default, default, default, default, default⟩⟩
instance : DecidableEq Ak := fun a b => decidable_of_iff (a.verb = b.verb ∧ a.name = b.name ∧ a.want = b.want ∧ a.at_ = b.at_ ∧ a.rule = b.rule ∧ a.key = b.key ∧ a.n = b.n ∧ a.m = b.m) ⟨fun h => by cases a; cases b; simp_all, fun h => by subst h; simp⟩
structure Cm where
  err : Int
  seq : Int
  handle : Ar
  version : Int
  state : Int
instance : Inhabited Cm := ⟨⟨default, default, default, default, default⟩⟩
instance : DecidableEq Cm := fun a b => decidable_of_iff (a.err = b.err ∧ a.seq = b.seq ∧ a.handle = b.handle ∧ a.version = b.version ∧ a.state = b.state) ⟨fun h => by cases a; cases b; simp_all, fun h => by subst h; simp⟩
/-- Where a tenant's two slices lie. -/
structure TA where
  ra : Option Addr
  rc : Nat
  ca : Option Addr
  cc : Nat
instance : Inhabited TA := ⟨⟨none, 0, none, 0⟩⟩
def Bk (l : List Aa) : Prop := ∀ i, i < l.length → (l.getD i default).rules.length ≤ 1000 ∧ (l.getD i default).creds.length ≤ 1000
def Hk (s : Ap) : Bool := (if s ≠ ([] : Ap) then (if ((s.length : Nat) : Int) ≤ 40 then (dW s) else false) else false)
def Ix (t : (Aa × Int)) : Bool := (if 1 ≤ t.1.version then decide (t.1.version ≤ t.2) else false)
def Iy (t : (Aa × Int)) : Bool := (if 1 ≤ t.1.state then (if t.1.state ≤ 3 then (if 0 ≤ t.1.deadline then (if t.1.deadline ≤ 1000000000000 then (if t.1.deadline = 0 then true else decide (t.1.state = 3)) else false) else false) else false) else false)
def Ng (t : (Aa × Int)) : Bool := (if (Hk t.1.name) = true then (if (Ik t.1.rules) = true then (Kd t.1.creds) else false) else false)
def Oj (s1 : List Bf) (s2 : List Bf) : Nat → Nat → Except Bool Nat
  | 0, x_1 => .ok (x_1)
  | n_2 + 1, x_1 => (if ((x_1 : Nat) : Int) < ((s1.length : Nat) : Int) then (if ¬ (((s1.getD x_1 default).allow) = ((s2.getD x_1 default).allow) ∧ ((s1.getD x_1 default).pfx.addr) = ((s2.getD x_1 default).pfx.addr) ∧ ((s1.getD x_1 default).pfx.bits) = ((s2.getD x_1 default).pfx.bits) ∧ ((s1.getD x_1 default).prt.lo) = ((s2.getD x_1 default).prt.lo) ∧ ((s1.getD x_1 default).prt.hi) = ((s2.getD x_1 default).prt.hi)) then .error false else (Oj s1 s2 n_2 (x_1 + 1))) else .ok (x_1))
def B6 (s1 : List Bf) (s2 : List Bf) : Bool := (if ((s1.length : Nat) : Int) ≠ ((s2.length : Nat) : Int) then false else (Bn (Oj s1 s2 (s1.length + 1) 0) (fun r => r) (fun x_1 => true)))
def Ok (s1 : List Bw) (s2 : List Bw) : Nat → Nat → Except Bool Nat
  | 0, x_1 => .ok (x_1)
  | n_2 + 1, x_1 => (if ((x_1 : Nat) : Int) < ((s1.length : Nat) : Int) then (if ¬ (((s1.getD x_1 default).id) = ((s2.getD x_1 default).id) ∧ ((s1.getD x_1 default).key) = ((s2.getD x_1 default).key) ∧ ((s1.getD x_1 default).frm) = ((s2.getD x_1 default).frm) ∧ ((s1.getD x_1 default).to) = ((s2.getD x_1 default).to)) then .error false else (Ok s1 s2 n_2 (x_1 + 1))) else .ok (x_1))
def B7 (s1 : List Bw) (s2 : List Bw) : Bool := (if ((s1.length : Nat) : Int) ≠ ((s2.length : Nat) : Int) then false else (Bn (Ok s1 s2 (s1.length + 1) 0) (fun r => r) (fun x_1 => true)))
def Ud (a : Aa) (b : Aa) : Bool := (if a.handle.slot = b.handle.slot ∧ a.handle.gen = b.handle.gen then (if a.name = b.name then (if a.state = b.state then (if a.version = b.version then (if a.deadline = b.deadline then (if (B6 a.rules b.rules) = true then (B7 a.creds b.creds) else false) else false) else false) else false) else false) else false)
def Dz (r : Ac) (name : Ap) : Nat → Nat → Except (Int × Bool) Nat
  | 0, x_1 => .ok (x_1)
  | n_2 + 1, x_1 => (if ((x_1 : Nat) : Int) < ((r.l.length : Nat) : Int) then (if ((r.l.getD x_1 default).name) = name then .error (((x_1 : Nat) : Int), true) else (Dz r name n_2 (x_1 + 1))) else .ok (x_1))
def Am (r : Ac) (name : Ap) : Int × Bool := (Bn (Dz r name (r.l.length + 1) 0) (fun r => r) (fun x_1 => (0, false)))
def Mh (r : Ac) : Nat → Nat → List Ap → Except Bool (Nat × (List Ap))
  | 0, x_1, x_2 => .ok (x_1, x_2)
  | n_3 + 1, x_1, x_2 => (if ((x_1 : Nat) : Int) < ((r.l.length : Nat) : Int) then (if ¬ (((r.l.getD x_1 default).handle.slot) = (((Dx r.slots).getD x_1 default).slot) ∧ ((r.l.getD x_1 default).handle.gen) = (((Dx r.slots).getD x_1 default).gen)) then .error false else (if ((r.l.getD x_1 default).name) ∈ x_2 then .error false else (if (!(Ix ((r.l.getD x_1 default), r.seq))) = true then .error false else (if (!(Iy ((r.l.getD x_1 default), r.seq))) = true then .error false else (if (!(Ng ((r.l.getD x_1 default), r.seq))) = true then .error false else (Mh r n_3 (x_1 + 1) (x_2 ++ [((r.l.getD x_1 default).name)]))))))) else .ok (x_1, x_2))
def Ga (r : Ac) : Bool := (if (!(Ep r.slots)) = true then false else (if r.seq < 0 then false else (if 1000000000000 < r.seq then false else (if ((((Dx r.slots).length) : Nat) : Int) ≠ ((r.l.length : Nat) : Int) then false else (Gz (Mh r (r.l.length + 1) 0 ([] : List Ap)) (fun r => r) (fun x_1 x_2 => true))))))
end Go.Proofs.YtopjaeoklkpcpaaGreatDoor.Jd

namespace Go.Proofs.YtopjaeoklkpcpaaGreatDoor.Jd
open Go.Proofs.Tryz
set_option linter.unusedVariables false
set_option linter.unusedSimpArgs false
theorem Zr {α : Type} [Inhabited α] (l : List α) (k : Nat) (h : k < l.length) : l.drop k = l.getD k default :: l.drop (k + 1) := by
  rw [List.drop_eq_getElem_cons h]
  simp [List.getD, h]
theorem Mi {α : Type} (l : List α) (k : Nat) (h : ¬ k < l.length) : l.drop k = [] := List.drop_of_length_le z2
theorem Ie {n a b : Int} : Lw n a b = true ↔ a ≤ n ∧ n ≤ b := by
  unfold Lw
  split <;> simp <;> omega
theorem kJ {n a b : Int} (h : Lw n a b = true) : a ≤ n ∧ n ≤ b := Ie.1 h
theorem dX {key : Ap} : Qn key = true ↔ 1 ≤ key.length ∧ key.length ≤ 64 := by
  unfold Qn
  split <;> simp <;> omega
def rW (c : Bw) : Prop := (1 ≤ c.id ∧ c.id ≤ 1000000000) ∧ (1 ≤ c.key.length ∧ c.key.length ≤ 64) ∧ 0 ≤ c.frm ∧ c.frm < c.to ∧ c.to ≤ 1000000000000
theorem rX {c : Bw} : (aJ c && St c && Oe c) = true ↔ rW c := by
  unfold aJ St Oe rW
  rw [Bool.and_eq_true, Bool.and_eq_true, Ie, dX]
  constructor
  · rintro ⟨⟨h1, h2⟩, h3⟩
    refine ⟨h1, h2, ?_⟩
    split at h3
    · split at h3
      · exact ⟨‹_›, ‹_›, by simpa using h3⟩
      · cases h3
    · cases h3
  · rintro ⟨h1, h2, h3, h4, h5⟩
    exact ⟨⟨h1, h2⟩, by rw [if_pos h3, if_pos h4]; simpa using h5⟩
def Su (l : List Bw) : Prop := l.length ≤ 4 ∧ (∀ c ∈ l, rW c) ∧ l.Pairwise fun a b => a.id < b.id
theorem Yd (l : List Bw) (a : Nat) (b : Int) (c : List Int) : ∀ n k, l.length < n + k → Bn (Mg l a b c n k) (fun r => r) (fun _ => true) = (l.drop k).all fun c => aJ c && St c && Oe c
  | 0, k, h => by
    rw [Mi l k z2]
    rfl
  | n + 1, k, h => by
    rw [Mg]
    by_cases hk : k < l.length
    · rw [if_pos z2, Zr l k hk, List.all_cons]
      cases h1 : aJ (l.getD k default)
      · simp [Bn]
      · cases h2 : St (l.getD k default)
        · simp [Bn]
        · cases h3 : Oe (l.getD k default)
          · simp [Bn]
          · simpa using Yd l a b c n (k + 1) z2
    · rw [if_neg z2, Mi l k hk]
      rfl
def Sv : Int → List Int → List Bw → Bool
  | _, _, [] => true
  | last, seen, c :: r => if c.id ∈ seen then false else if c.id < last then false else Sv c.id (seen ++ [c.id]) r
theorem Ye (l : List Bw) (B : Nat → Int → List Int → Bool) (b : Bool) (hB : ∀ x y z, B x y z = b) : ∀ n k last seen, l.length < n + k → aF (Km l n k last seen) (fun r => r) B = (Sv last seen (l.drop k) && b)
  | 0, k, last, seen, h => by
    rw [Mi l k z2]
    simp [Km, aF, Sv, hB]
  | n + 1, k, last, seen, h => by
    rw [Km]
    by_cases hk : k < l.length
    · rw [if_pos z2, Zr l k hk, Sv]
      by_cases h1 : (l.getD k default).id ∈ seen
      · rw [if_pos h1, if_pos h1]; simp [aF]
      · rw [if_neg h1, if_neg h1]
        by_cases h2 : (l.getD k default).id < last
        · rw [if_pos h2, if_pos h2]; simp [aF]
        · rw [if_neg h2, if_neg h2]
          exact Ye l B b hB n (k + 1) _ _ z2
    · rw [if_neg z2, Mi l k hk]
      simp [aF, Sv, hB]
theorem dY : ∀ (xs : List Bw) (last : Int) (seen : List Int), (∀ s ∈ seen, s ≤ last) → (Sv last seen xs = true ↔ (∀ c ∈ xs, last ≤ c.id ∧ c.id ∉ seen) ∧ xs.Pairwise fun a b => a.id < b.id)
  | [], last, seen, _ => by simp [Sv]
  | c :: r, last, seen, hs => by
    rw [Sv]
    by_cases h1 : c.id ∈ seen
    · rw [if_pos h1]
      exact ⟨nofun, fun ⟨h, _⟩ => absurd h1 (h c List.mem_cons_self).2⟩
    · rw [if_neg h1]
      by_cases h2 : c.id < last
      · rw [if_pos h2]
        exact ⟨nofun, fun ⟨h, _⟩ => by have := (h c List.mem_cons_self).1; omega⟩
      · rw [if_neg h2, dY r c.id (seen ++ [c.id]) (fun s hm => by
          rcases List.mem_append.1 hm with hm | hm
          · have := hs s hm; omega
          · have : s = c.id := by simpa using hm
            omega), List.pairwise_cons]
        constructor
        · rintro ⟨g1, g2⟩
          have g3 : ∀ d ∈ r, c.id < d.id := fun d hd => by
            obtain ⟨a1, a2⟩ := g1 d hd
            have : d.id ≠ c.id := fun e => a2 (by simp [e])
            omega
          refine ⟨fun d hd => ?_, g3, g2⟩
          rcases List.mem_cons.1 hd with rfl | hd
          · exact ⟨by omega, h1⟩
          · obtain ⟨a1, a2⟩ := g1 d hd
            exact ⟨by omega, fun hm => a2 (List.mem_append_left _ hm)⟩
        · rintro ⟨g1, g2, g3⟩
          refine ⟨fun d hd => ?_, g3⟩
          have := g2 d hd
          refine ⟨by omega, fun hm => ?_⟩
          rcases List.mem_append.1 hm with hm | hm
          · have := hs _ hm; omega
          · have : d.id = c.id := by simpa using hm
            omega
theorem Nh {l : List Bw} : Kd l = true ↔ Su l := by
  unfold Kd Su
  rw [Ye l _ (decide (((l.length : Nat) : Int) ≤ 4) && l.all fun c => aJ c && St c && Oe c) (fun x y z => by
    by_cases h : ((l.length : Nat) : Int) ≤ 4
    · rw [if_pos h, Yd l x y z _ _ z2]
      simp [h]
    · rw [if_neg h]; simp [h]) _ _ _ _ z2]
  rw [List.drop_zero, Bool.and_eq_true, Bool.and_eq_true, dY l 0 [] Hb, List.all_eq_true, decide_eq_true_eq]
  constructor
  · rintro ⟨⟨_, h2⟩, h3, h4⟩
    exact ⟨by omega, fun c hc => rX.1 (h4 c hc), h2⟩
  · rintro ⟨h1, h2, h3⟩
    exact ⟨⟨fun c hc => ⟨by have := (h2 c hc).1; omega, by simp⟩, h3⟩, by omega, fun c hc => rX.2 (h2 c hc)⟩
def dZ (l : List Bw) : Prop := ∀ k : Nat, 0 ≤ (l.getD k default).id ∧ (l.getD k default).id ≤ 1000000000
theorem dZ.id {l : List Bw} (h : dZ l) (k : Nat) : 0 ≤ (l.getD k default).id ∧ (l.getD k default).id ≤ 1000000000 := h k
theorem mT {α : Type} [Inhabited α] (l : List α) (k : Nat) : l.getD k default ∈ l ∨ l.getD k default = default := by
  by_cases h : k < l.length
  · left; simp [List.getD, h]
  · right; simp [List.getD, h]
theorem mU {l : List Bw} (h : Kd l = true) : dZ l := fun k => by
  obtain ⟨_, h2, _⟩ := Nh.1 h
  rcases mT l k with hm | hm
  · have := (h2 _ hm).1; omega
  · rw [hm]
    show 0 ≤ (0 : Int) ∧ (0 : Int) ≤ _
    omega
theorem eC {l : List Bw} (hl : dZ l) (key : Ap) (now overlap span : Int) : ∀ n k out id, 0 ≤ id → 0 ≤ (Ib l key now overlap span n k out id).2.2
  | 0, k, out, id, h => h
  | n + 1, k, out, id, h => by
    have := hl.id k
    rw [Ib]
    repeat' split
    all_goals first | exact h | exact eC hl key now overlap span n _ _ _ z2
theorem rY (l : List Bw) (key : Ap) (now overlap span : Int) : (Fg l key now overlap span).2.2 = 0 → (0 ≤ now ∧ now ≤ 1000000000000) ∧ (0 ≤ overlap ∧ overlap ≤ 1000000000) ∧ (1 ≤ span ∧ span ≤ 1000000000) ∧ now + span ≤ 1000000000000 ∧ 0 ≤ (Fg l key now overlap span).2.1 ∧ (Fg l key now overlap span).2.1 ≤ 1000000000 := by
  unfold Fg
  cases h1 : Kd l
  · simp
  · have hid := eC (mU h1) key now overlap span (l.length + 1) 0 [] 1 z2
    cases h2 : Qn key
    · simp
    · cases h3 : Lw now 0 1000000000000
      · simp
      · cases h4 : Lw overlap 0 1000000000
        · simp
        · cases h5 : Lw span 1 1000000000
          · simp
          · intro h
            have g3 := Ie.1 h3
            have g4 := Ie.1 h4
            have g5 := Ie.1 h5
            simp only [gG, Bool.not_true, Bool.false_eq_true, if_false] at h ⊢
            generalize Ib l key now overlap span (l.length + 1) 0 [] 1 = q at h hid ⊢
            by_cases h6 : 1000000000000 < now + span
            · simp [h6] at h
            · rw [if_neg h6] at h ⊢
              split at h
              · simp at h
              · split at h
                · simp at h
                · rename_i g7 g8
                  rw [if_neg g7, if_neg g8]
                  exact ⟨g3, g4, g5, by omega, hid, Int.not_lt.1 g8⟩
end Go.Proofs.YtopjaeoklkpcpaaGreatDoor.Jd

namespace Go.Proofs.YtopjaeoklkpcpaaGreatDoor.Jd
open Go.Proofs.Tryz
set_option linter.unusedVariables false
set_option linter.unusedSimpArgs false
theorem iC {a : Int} (h : Uc a = true) : 0 ≤ a ∧ a ≤ 4294967295 := by
  unfold Uc at h; split at h
  · exact ⟨‹_›, by simpa using h⟩
  · cases h
theorem mV {a : Int} (h : Qo a = true) : 0 ≤ a ∧ a ≤ 4294967295 := by
  unfold Qo at h; split at h
  · exact ⟨‹_›, by simpa using h⟩
  · cases h
theorem iD {bits : Int} (h : 0 ≤ bits ∧ bits ≤ 32) : Og bits = 2 ^ (32 - bits).toNat := by
  obtain ⟨n, hn⟩ : ∃ n : Nat, bits = 32 - (n : Int) := ⟨(32 - bits).toNat, by omega⟩
  have h1 : (32 - bits).toNat = n := by omega
  have h2 : n ≤ 32 := by omega
  unfold Og kC
  rw [h1, show min n IntKind.i64.bits = n from by show min n 64 = n; omega, Int.one_mul]
  apply Xm
  have h3 : (2 : Int) ^ n ≤ 2 ^ 32 := mO h2
  have h4 : (0 : Int) < 2 ^ n := Int.pow_pos z2
  omega
theorem eD {bits : Int} (h : 0 ≤ bits ∧ bits ≤ 32) : 1 ≤ Og bits ∧ Og bits ≤ 4294967296 := by
  rw [iD h]
  have h3 : (2 : Int) ^ (32 - bits).toNat ≤ 2 ^ 32 := mO z2
  have h4 : (0 : Int) < 2 ^ (32 - bits).toNat := Int.pow_pos z2
  omega
theorem rRight_t {p : An} (h : rRight p = true) : 0 ≤ p.bits ∧ p.bits ≤ 32 ∧ 0 ≤ p.addr ∧ p.addr ≤ 4294967295 := by
  unfold rRight at h
  split at h
  · split at h
    · split at h
      · have := iC ‹_›; omega
      · cases h
    · cases h
  · cases h
theorem eE {p : An} (h : Pb p = true) : 0 ≤ p.bits ∧ p.bits ≤ 32 ∧ 0 ≤ p.addr ∧ p.addr ≤ 4294967295 := by
  unfold Pb at h
  split at h
  · split at h
    · have := mV h; omega
    · cases h
  · cases h
theorem B8 {p : An} (h : Nf p = true) : 0 ≤ p.bits ∧ p.bits ≤ 32 ∧ 0 ≤ p.addr ∧ p.addr ≤ 4294967295 := by
  apply eE
  unfold Nf at h
  cases hs : Pb p
  · simp [hs] at h
  · rfl
end Go.Proofs.YtopjaeoklkpcpaaGreatDoor.Jd

namespace Go.Proofs.YtopjaeoklkpcpaaGreatDoor.Jd
open Go.Proofs.Tryz
set_option linter.unusedVariables false
set_option linter.unusedSimpArgs false
theorem uS {p : Al} (h : Oh p = true) : 0 ≤ p.lo ∧ p.lo ≤ p.hi ∧ p.hi ≤ 65535 := by
  unfold Oh at h
  split at h
  · split at h
    · simp at h; omega
    · cases h
  · cases h
theorem B9 {p : Al} (h : Qp p = true) : 0 ≤ p.lo ∧ p.lo ≤ p.hi ∧ p.hi ≤ 65535 := by
  unfold Qp at h
  split at h
  · cases h
  · split at h
    · cases h
    · split at h
      · cases h
      · omega
end Go.Proofs.YtopjaeoklkpcpaaGreatDoor.Jd

namespace Go.Proofs.YtopjaeoklkpcpaaGreatDoor.Jd
open Go.Proofs.Tryz
set_option linter.unusedVariables false
set_option linter.unusedSimpArgs false
theorem C0 {m k : Nat} (hm : m < 2 ^ 63) (hk : k ≤ 32) : Uz .i64 (m : Int) (2 ^ k - 1) = (m : Int) % 2 ^ k := by
  have hp : (0 : Nat) < 2 ^ k := Nat.pow_pos z2
  have hle : (2 : Nat) ^ k ≤ 2 ^ 32 := Nat.pow_le_pow_right z2 hk
  have e : ((2 : Int) ^ k - 1) = ((2 ^ k - 1 : Nat) : Int) := by rw [Int.ofNat_sub z2]; simp
  rw [e, zV hm z2, Nat.and_two_pow_sub_one_eq_mod]
  simp
end Go.Proofs.YtopjaeoklkpcpaaGreatDoor.Jd

namespace Go.Proofs.YtopjaeoklkpcpaaGreatDoor.Jd
open Go.Proofs.Tryz
set_option linter.unusedVariables false
set_option linter.unusedSimpArgs false
theorem Wl {a : Int} : Qo a = true ↔ 0 ≤ a ∧ a ≤ 4294967295 := by
  refine ⟨mV, fun h => ?_⟩
  unfold Qo
  rw [if_pos h.1]; simpa using h.2
theorem iE : Qo = Uc := rfl
theorem C1 {b : Int} (h : 0 ≤ b ∧ b ≤ 32) : ∃ k : Nat, k ≤ 32 ∧ b = 32 - (k : Int) ∧ Og b = 2 ^ k := by
  refine ⟨(32 - b).toNat, by omega, by omega, iD h⟩
def uT (p : An) : Prop := (0 ≤ p.bits ∧ p.bits ≤ 32) ∧ (0 ≤ p.addr ∧ p.addr ≤ 4294967295) ∧ p.addr % Og p.bits = 0
theorem Qs {p : An} : rRight p = true ↔ uT p := by
  unfold uT
  constructor
  · intro h
    obtain ⟨h1, h2, h3, h4⟩ := rRight_t h
    refine ⟨⟨h1, h2⟩, ⟨h3, h4⟩, ?_⟩
    unfold rRight at h
    rw [if_pos h1, if_pos h2, if_pos (by rw [← iE]; exact Wl.2 ⟨h3, h4⟩)] at h
    simpa using h
  · rintro ⟨⟨h1, h2⟩, h3, h4⟩
    unfold rRight
    rw [if_pos h1, if_pos h2, if_pos (by rw [← iE]; exact Wl.2 h3)]
    simpa using h4
theorem C2 (p : An) : rV p = Og p.bits - 1 := rfl
theorem iF {p : An} (hb : 0 ≤ p.bits ∧ p.bits ≤ 32) (ha : 0 ≤ p.addr ∧ p.addr ≤ 4294967295) : iB p = true ↔ p.addr % Og p.bits = 0 := by
  obtain ⟨k, hk, _, hs⟩ := C1 hb
  unfold iB
  rw [C2, hs]
  obtain ⟨m, hm⟩ : ∃ m : Nat, p.addr = (m : Int) := ⟨p.addr.toNat, by omega⟩
  rw [hm, C0 z2 hk]
  simp
theorem eF {p : An} : Pb p = true ↔ (0 ≤ p.bits ∧ p.bits ≤ 32) ∧ (0 ≤ p.addr ∧ p.addr ≤ 4294967295) := by
  constructor
  · intro h; have := eE h; omega
  · rintro ⟨⟨h1, h2⟩, h3⟩
    unfold Pb
    rw [if_pos h1, if_pos h2]; exact Wl.2 h3
theorem pN {p : An} : Nf p = true ↔ uT p := by
  unfold uT
  constructor
  · intro h
    have hs : Pb p = true := by
      unfold Nf at h
      cases hs : Pb p
      · simp [hs] at h
      · rfl
    have hb := eF.1 hs
    refine ⟨hb.1, hb.2, (iF hb.1 hb.2).1 ?_⟩
    unfold Nf at h
    cases he : iB p
    · simp [hs, he] at h
    · rfl
  · rintro ⟨h1, h2, h3⟩
    unfold Nf
    rw [eF.2 ⟨h1, h2⟩, (iF h1 h2).2 h3]; simp
theorem uU (p : An) : Nf p = rRight p := by rw [Bool.eq_iff_iff, pN, Qs]
theorem uT.size {p : An} (h : uT p) : 1 ≤ Og p.bits ∧ Og p.bits ≤ 4294967296 := eD h.1
def C3 : Nat → Nat → Ap
  | 0, _ => []
  | f + 1, u => if u < 10 then [UInt8.ofNat (48 + u)] else C3 f (u / 10) ++ [UInt8.ofNat (48 + u % 10)]
theorem kK : ∀ (f u : Nat), u < f → C3 f u = Lib.decDigits u
  | 0, u, h => by omega
  | f + 1, u, h => by
    rw [Lib.decDigits]
    unfold C3
    split
    · rfl
    · rw [kK f (u / 10) z2]
def C4 (n : Int) : Ap := if n < 0 then 45 :: C3 (n.natAbs + 1) n.natAbs else C3 (n.toNat + 1) n.toNat
theorem Ll : Lib.itoa = C4 := by
  funext n
  unfold Lib.itoa C4
  rw [kK _ _ z2, kK _ _ z2]
def mW (t : Ap) (most : Int) : Int × Bool := Gz (Wk t most (t.length + 1) 0 0) (fun r => r) (fun a _ => if a ≤ most then (a, decide (C4 a = t)) else (a, false))
theorem Hu : Ic = mW := by
  funext t most
  unfold Ic mW
  rw [Ll]
end Go.Proofs.YtopjaeoklkpcpaaGreatDoor.Jd

namespace Go.Proofs.YtopjaeoklkpcpaaGreatDoor.Jd
open Go.Proofs.Tryz
set_option linter.unusedVariables false
set_option linter.unusedSimpArgs false
theorem e1 : Ma [49, 48, 46, 49, 46, 48, 46, 48, 47, 49, 54] = (⟨167837696, 16⟩, 0) := by unfold Ma Hr; rw [Hu]; kernel_rfl
theorem e2 : Hr [49, 48, 46, 49, 46, 50, 46, 51] = (167838211, 0) := by unfold Hr; rw [Hu]; kernel_rfl
theorem e3 : Hr [49, 48, 46, 50, 46, 48, 46, 48] = (167903232, 0) := by unfold Hr; rw [Hu]; kernel_rfl
theorem e4 : Wj 167903231 = ([49, 48, 46, 49, 46, 50, 53, 53, 46, 50, 53, 53], 0) := by unfold Wj; rw [Ll]; kernel_rfl
theorem e5 : Hr [49, 46, 50, 46, 51, 46, 48, 52] = (0, 60) := by unfold Hr; rw [Hu]; kernel_rfl
theorem e6 : Ma [49, 48, 46, 49, 46, 48, 46, 49, 47, 49, 54] = (⟨0, 0⟩, 61) := by unfold Ma Hr; rw [Hu]; kernel_rfl
end Go.Proofs.YtopjaeoklkpcpaaGreatDoor.Jd

namespace Go.Proofs.YtopjaeoklkpcpaaGreatDoor.Jd
open Go.Proofs.Tryz
set_option linter.unusedVariables false
set_option linter.unusedSimpArgs false
theorem q1 : Zo [56, 48, 45, 57, 48] = (⟨80, 90⟩, 0) := by unfold Zo Hs; rw [Ll]; kernel_rfl
theorem q2 : Zo [42] = (⟨0, 65535⟩, 0) := by unfold Zo Hs; rw [Ll]; kernel_rfl
theorem q3 : kI [49, 46, 50, 46, 51, 46, 52, 58, 56, 48] = (⟨16909060, 80⟩, 0) := by unfold kI Zp Hr Wj; rw [Hu, Ll]; kernel_rfl
theorem q4 : Zp ⟨16909060, 80⟩ = ([49, 46, 50, 46, 51, 46, 52, 58, 56, 48], 0) := by unfold Zp Wj; rw [Ll]; kernel_rfl
theorem q5 : Zo [56, 48, 45, 56, 48] = (⟨0, 0⟩, 70) := by unfold Zo Hs; rw [Ll]; kernel_rfl
theorem q6 : kI [49, 46, 50, 46, 51, 46, 52, 58, 48] = (⟨0, 0⟩, 71) := by unfold kI Zp Hr Wj; rw [Hu, Ll]; kernel_rfl
theorem C5 (p : Al) : Qp p = decide (0 ≤ p.lo ∧ p.lo ≤ p.hi ∧ p.hi ≤ 65535) := by
  rw [Bool.eq_iff_iff, decide_eq_true_eq]
  refine ⟨B9, fun h => ?_⟩
  unfold Qp
  rw [if_neg z2, if_neg z2, if_neg z2]
end Go.Proofs.YtopjaeoklkpcpaaGreatDoor.Jd

namespace Go.Proofs.YtopjaeoklkpcpaaGreatDoor.Jd
open Go.Proofs.Tryz
set_option linter.unusedVariables false
set_option linter.unusedSimpArgs false
theorem C6 {s : Ap} {i : Nat} (h : i < s.length) : (bs s).get! i = s.getD i default := by
  have h2 : i < (bs s).data.size := by simpa [bs] using h
  rw [ByteArray.get!]
  rw [getElem!_pos (bs s).data i h2]
  simp [bs, List.getD, h]
theorem AH5 {s : Ap} {i : Nat} (h : i < s.length) (hb : (s.getD i default).toNat < 128) : bN s i = ((s.getD i default).toNat, 1) := by
  unfold bN Utf8.decode
  simp only [Nat.add_zero, C6 h]
  rw [if_pos hb]
theorem AH6 {s : Ap} {i : Nat} (h : i < s.length) (hb : ¬ (s.getD i default).toNat < 128) : 128 ≤ (bN s i).1 := by
  unfold bN Utf8.decode
  simp only [Nat.add_zero, C6 h]
  rw [if_neg hb]
  repeat' split
  all_goals (simp only [Utf8.runeError]; try simp only [Bool.and_eq_true, decide_eq_true_eq] at *; try omega)
end Go.Proofs.YtopjaeoklkpcpaaGreatDoor.Jd

namespace Go.Proofs.YtopjaeoklkpcpaaGreatDoor.Jd
open Go.Proofs.Tryz
set_option linter.unusedVariables false
set_option linter.unusedSimpArgs false
theorem uV (p : Al) : Oh p = decide (0 ≤ p.lo ∧ p.lo ≤ p.hi ∧ p.hi ≤ 65535) := by
  rw [Bool.eq_iff_iff, decide_eq_true_eq]
  refine ⟨uS, fun h => ?_⟩
  unfold Oh
  rw [if_pos z2, if_pos z2]; simp; omega
theorem pO (p : Al) : Oh p = Qp p := by rw [uV, C5]
def one (s : Ap) : Al := ⟨Cd s, Cd s⟩
end Go.Proofs.YtopjaeoklkpcpaaGreatDoor.Jd

namespace Go.Proofs.YtopjaeoklkpcpaaGreatDoor.Jd
open Go.Proofs.Tryz
set_option linter.unusedVariables false
set_option linter.unusedSimpArgs false
theorem aK {key : Ap} : Qr key = true ↔ 1 ≤ key.length ∧ key.length ≤ 64 := by
  unfold Qr
  split <;> simp <;> omega
def AA2 (l : List Bw) (i : Nat) : Prop := rW (l.getD i default) ∧ (0 < i → (l.getD (i - 1) default).id < (l.getD i default).id)
theorem Sw (l : List Bw) (b : Bool) : ∀ n k, l.length < n + k → (Bn (Fd l n k) (fun r => r) (fun _ => b) = true ↔ b = true ∧ ∀ i, k ≤ i → i < l.length → AA2 l i)
  | 0, k, h => by
    simp only [Fd, Bn]
    exact ⟨fun hb => ⟨hb, fun i h1 h2 => by omega⟩, fun hb => hb.1⟩
  | n + 1, k, h => by
    have hp : (((k : Nat) : Int) - 1).toNat = k - 1 := by omega
    by_cases hk : k < l.length
    · by_cases hb : AA2 l k
      · have e : Fd l (n + 1) k = Fd l n (k + 1) := by
          obtain ⟨⟨h1, h2, h3, h4, h5⟩, h6⟩ := hb
          have hm := aK.2 h2
          rw [Fd, if_pos z2, if_neg z2, if_neg z2, hp, hm]
          by_cases h0 : 0 < ((k : Nat) : Int)
          · have := h6 z2
            rw [if_pos h0, if_neg z2, if_neg Hb, if_neg z2, if_neg z2, if_neg z2]
          · rw [if_neg h0, if_neg Hb, if_neg z2, if_neg z2, if_neg z2]
        rw [e, Sw l b n (k + 1) z2]
        constructor
        · rintro ⟨g1, g2⟩
          refine ⟨g1, fun i hi hl => ?_⟩
          by_cases hik : i = k
          · subst hik; exact hb
          · exact g2 i z2 hl
        · rintro ⟨g1, g2⟩
          exact ⟨g1, fun i hi hl => g2 i z2 hl⟩
      · have e : Fd l (n + 1) k = .error false := by
          rw [Fd, if_pos z2, hp]
          repeat' split
          all_goals first
            | rfl
            | (exfalso
               apply hb
               have hm : Qr (l.getD k default).key = true := by simp_all
               have := aK.1 hm
               exact ⟨⟨by omega, this, by omega, by omega, by omega⟩, fun _ => by omega⟩)
        rw [e]
        simp only [Bn]
        exact ⟨nofun, fun ⟨_, g2⟩ => absurd (g2 k (Nat.le_refl _) hk) hb⟩
    · rw [Fd, if_neg z2]
      simp only [Bn]
      exact ⟨fun hb => ⟨hb, fun i h1 h2 => by omega⟩, fun hb => hb.1⟩
theorem gI {l : List Bw} (h : ∀ i, 0 < i → i < l.length → (l.getD (i - 1) default).id < (l.getD i default).id) : l.Pairwise fun a b => a.id < b.id := by
  have key : ∀ d i, i + d + 1 < l.length → (l.getD i default).id < (l.getD (i + d + 1) default).id := by
    intro d
    induction d with
    | zero => intro i hi; exact h (i + 1) z2 hi
    | succ d ih =>
      intro i hi
      have h1 := ih i z2
      have h2 := h (i + (d + 1) + 1) z2 hi
      rw [show i + (d + 1) + 1 - 1 = i + d + 1 by omega] at h2
      omega
  rw [List.pairwise_iff_getElem]
  intro i j hi hj hij
  have := key (j - i - 1) i z2
  rw [show i + (j - i - 1) + 1 = j by omega] at this
  simpa [List.getD, hi, hj] using this
theorem aL {l : List Bw} : Oi l = true ↔ Su l := by
  unfold Oi Su
  rw [Sw l _ _ _ z2, decide_eq_true_eq]
  constructor
  · rintro ⟨h1, h2⟩
    refine ⟨by omega, fun c hc => ?_, gI fun i hi hl => (h2 i z2 hl).2 hi⟩
    obtain ⟨i, hi, rfl⟩ := List.mem_iff_getElem.1 hc
    have := (h2 i z2 hi).1
    simpa [List.getD, hi] using this
  · rintro ⟨h1, h2, h3⟩
    refine ⟨by omega, fun i _ hi => ⟨?_, fun h0 => ?_⟩⟩
    · have := h2 l[i] (List.getElem_mem hi)
      simpa [List.getD, hi] using this
    · have := List.pairwise_iff_getElem.1 h3 (i - 1) i z2 hi z2
      simpa [List.getD, hi, show i - 1 < l.length by omega] using this
theorem pP (l : List Bw) : Oi l = Kd l := by
  cases h : Kd l
  · cases h2 : Oi l
    · rfl
    · have := Nh.2 (aL.1 h2)
      rw [h] at this; cases this
  · exact aL.2 (Nh.1 h)
end Go.Proofs.YtopjaeoklkpcpaaGreatDoor.Jd

namespace Go.Proofs.YtopjaeoklkpcpaaGreatDoor.Jd
open Go.Proofs.Tryz
open Go.Proofs
set_option maxRecDepth 100000
open Go.RowKit Go.Extern.Stop Go.Stop Go.Extern
set_option linter.unusedVariables false
set_option linter.unusedSimpArgs false
theorem AH7 (t : Value) (w : World) : Calls Tryz.prog 76 #[.nilIface, t] w fun e w' => e = .returned (.bool false) ∧ w' = w := by
  go_enter func76, ntmps76
  go_wp2
  go_ret
  exact ⟨rfl, rfl⟩
theorem C7 (w : World) {t : Value} : Hn Tryz.prog 76 [.nilIface, t] w (.bool false) :=
  (AH7 t w).mono fun e w' ⟨he, hw⟩ => ⟨he, hw ▸ Below.refl _ _⟩
theorem mX (t : Addr) (w : World) : (ReflectliteValue.unpack (.iface 219 (.pointer (some t)))).run Tryz.prog w
    = .ok (.agg #[.pointer (some ⟨6, 219, none⟩), .pointer (some ⟨w.heap.size, 0, none⟩), .int .u64 150]) (w.alloc (.cells #[.pointer (some t)] 219)) := by kernel_rfl
theorem C8 (a : Addr) (w : World) : (ReflectliteValue.methodAny (ReflectliteValue.valueError "reflectlite.Value.Type" 0) (fun t _ _ _ => ReflectliteType.toType t) #[.agg #[.pointer (some ⟨6, 219, none⟩), .pointer (some a), .int .u64 150]]).run Tryz.prog w
    = .ok (.iface 199 (.agg #[.pointer (some ⟨6, 219, none⟩)])) w := by kernel_rfl
theorem gJ (h : Value) (w : World) : (Go.method 373 199 (.agg #[h]) "Kind").run Tryz.prog w = .ok (196, h) w := by kernel_rfl
theorem C9 (w : World) : ((ReflectliteType.abiMethod fun t => (fun a : Nat => Value.int IntKind.u8 (a : Int)) <$> Rtype.kind t) #[.pointer (some ⟨6, 219, none⟩)]).run Tryz.prog w = .ok (.int .u8 22) w := by kernel_rfl
theorem D0 (w : World) : ((ReflectliteType.abiMethod fun t => (fun a : Nat => Value.int IntKind.u8 (a : Int)) <$> Rtype.kind t) #[.pointer (some ⟨6, 216, none⟩)]).run Tryz.prog w = .ok (.int .u8 25) w := by kernel_rfl
theorem D1 (z : Sem Value) (f : TypeId → Addr → Nat → Nat → Sem Value) (v : Value) :
    ReflectliteValue.method z f #[v] = (do match ← ReflectliteValue.parts v with | none => z | some (t, a, fl) => f t a fl (fl % 32)) := rfl
theorem iG (a : Addr) (w : World) : (ReflectliteValue.parts (.agg #[.pointer (some ⟨6, 219, none⟩), .pointer (some a), .int .u64 150])).run Tryz.prog w = .ok (some (219, a, 150)) w := by kernel_rfl
theorem uW (a p : Addr) (W : World) (ha : W.cell? a = some (.pointer (some p))) :
    (ReflectliteValue.method (ReflectliteValue.valueError "reflectlite.Value.IsNil" 0) ReflectliteValue.isNil #[.agg #[.pointer (some ⟨6, 219, none⟩), .pointer (some a), .int .u64 150]]).run Tryz.prog W = .ok (.bool false) W := by
  rw [D1]
  simp only [Sem.run_bind, iG, Result.andThen]
  simp [ReflectliteValue.isNil, loadVar, isAgg, underlying, underlying219, ha, Result.andThen]
theorem gK (h : Value) (w : World) : (Go.method 373 199 (.agg #[h]) "Elem").run Tryz.prog w = .ok (206, .agg #[h]) w := by kernel_rfl
theorem Va (h : Value) (w : World) : (Go.method 373 199 (.agg #[h]) "Implements").run Tryz.prog w = .ok (207, .agg #[h]) w := by kernel_rfl
theorem Rs (h : Value) (w : World) : (Go.method 373 199 (.agg #[h]) "AssignableTo").run Tryz.prog w = .ok (204, .agg #[h]) w := by kernel_rfl
theorem D2 (w : World) : (ReflectliteType.method ReflectliteType.elem #[.agg #[.pointer (some ⟨6, 219, none⟩)]]).run Tryz.prog w = .ok (.iface 199 (.agg #[.pointer (some ⟨6, 216, none⟩)])) w := by kernel_rfl
theorem eG (w : World) : (ReflectliteType.relation "Implements" ReflectliteType.implements_ #[.agg #[.pointer (some ⟨6, 216, none⟩)], .iface 199 (.agg #[.pointer (some ⟨6, 78, none⟩)])]).run Tryz.prog w = .ok (.bool true) w := by kernel_rfl
theorem pQ (v : Value) (w : World) : (ReflectliteType.typeOf #[.iface 216 v]).run Tryz.prog w = .ok (.iface 199 (.agg #[.pointer (some ⟨6, 216, none⟩)])) w := by kernel_rfl
theorem eH (w : World) : (ReflectliteType.relation "AssignableTo" ReflectliteType.assignableTo #[.agg #[.pointer (some ⟨6, 216, none⟩)], .iface 199 (.agg #[.pointer (some ⟨6, 216, none⟩)])]).run Tryz.prog w = .ok (.bool true) w := by kernel_rfl
theorem mY (k : Int) (w : World) : (ReflectliteValue.unpack (.iface 216 (.agg #[.int .i64 k]))).run Tryz.prog w
    = .ok (.agg #[.pointer (some ⟨6, 216, none⟩), .pointer (some ⟨w.heap.size, 0, none⟩), .int .u64 153]) (w.alloc (.cells #[.int .i64 k] 216)) := by kernel_rfl
theorem pR (w : World) : (Rtype.elem? 219).run Tryz.prog w = .ok (some 216) w := by kernel_rfl
theorem AH8 (p : Addr) (w : World) : (ReflectliteValue.mk 216 p ReflectliteValue.flagAddr).run Tryz.prog w = .ok (.agg #[.pointer (some ⟨6, 216, none⟩), .pointer (some p), .int .u64 409]) w := by kernel_rfl
theorem uX (a p : Addr) (W : World) (ha : W.cell? a = some (.pointer (some p))) :
    (ReflectliteValue.method (ReflectliteValue.valueError "reflectlite.Value.Elem" 0) ReflectliteValue.elem #[.agg #[.pointer (some ⟨6, 219, none⟩), .pointer (some a), .int .u64 150]]).run Tryz.prog W
      = .ok (.agg #[.pointer (some ⟨6, 216, none⟩), .pointer (some p), .int .u64 409]) W := by
  rw [D1]
  simp only [Sem.run_bind, iG, Result.andThen]
  simp [ReflectliteValue.elem, loadVar, isAgg, underlying, underlying219, ha, Result.andThen, pR, AH8]
theorem AH9 (v x : Value) : ReflectliteValue.set #[v, x] = (do
    let (some (dst, a, fl), some (src, b, _)) := (← ReflectliteValue.parts v, ← ReflectliteValue.parts x)
      | unsupported (.noEntry "extern/(internal/reflectlite.Value).Set.zeroValue")
    if fl / ReflectliteValue.flagAddr % 2 == 0 then unsupported (.noEntry "extern/(internal/reflectlite.Value).Set.unaddressable")
    let val ← loadVar src b
    if ← Rtype.directlyAssignable dst src then storeVar dst a val
    else if ← Rtype.implements dst src then
      if (← Rtype.kind src) == 20 then
        match val with
        | .nilIface => unsupported (.noEntry "extern/reflectlite: a nil value of one interface type handed on as a value of another")
        | _ => storeVar dst a val
      else storeVar dst a (.iface src val)
    else panicString ("reflectlite.Set: value of type " ++ (← Rtype.spelt src) ++ " is not assignable to type " ++ (← Rtype.spelt dst))
    pure (.tuple #[])) := rfl
theorem uY (a : Addr) (w : World) : (ReflectliteValue.parts (.agg #[.pointer (some ⟨6, 216, none⟩), .pointer (some a), .int .u64 409])).run Tryz.prog w = .ok (some (216, a, 409)) w := by kernel_rfl
theorem uZ (a : Addr) (w : World) : (ReflectliteValue.parts (.agg #[.pointer (some ⟨6, 216, none⟩), .pointer (some a), .int .u64 153])).run Tryz.prog w = .ok (some (216, a, 153)) w := by kernel_rfl
theorem pS (w : World) : (Rtype.directlyAssignable 216 216).run Tryz.prog w = .ok true w := by kernel_rfl
theorem D3 (w : World) : (sizeOf 216).run Tryz.prog w = .ok 1 w := by kernel_rfl
theorem T3 (w : World) : (isAgg 216).run Tryz.prog w = .ok true w := by kernel_rfl
theorem T4 (ta b : Addr) (k : Int) (old : Value) (W : World) (hb : W.cell? b = some (.int .i64 k)) (hsb : b.spot = none) (ht : W.cell? ta = some old) (hst : ta.spot = none) (hf : W.frozen? ta = false) :
    (ReflectliteValue.set #[.agg #[.pointer (some ⟨6, 216, none⟩), .pointer (some ta), .int .u64 409], .agg #[.pointer (some ⟨6, 216, none⟩), .pointer (some b), .int .u64 153]]).run Tryz.prog W
      = .ok (.tuple #[]) (W.setCell ta (.int .i64 k)) := by
  have hl : (loadCells b 1).run Tryz.prog W = .ok #[.int .i64 k] W := run_loadCells_list (P := Tryz.prog) W b [.int .i64 k] (fun j v hj => by
    rcases j with _ | j
    · cases hj
      simpa [Addr.add] using hb
    · simp at hj)
  rw [AH9]
  simp only [Sem.run_bind, uY, uZ, Result.andThen]
  simp [ReflectliteValue.flagAddr, loadVar, T3, D3, hl, Result.andThen, pS, storeVar, Value.cells, storeCells, Addr.add]
  rw [run_store Tryz.prog W ta _ _ (by rfl)]
  simp [ht, hf]
set_option maxHeartbeats 4000000 in
theorem AI0 (k : Int) (t : Addr) (old : Value) (w : World) (hg : w.cell? ⟨0, 0, none⟩ = some (.iface 199 (.agg #[.pointer (some ⟨6, 78, none⟩)]))) (ht0 : w.cell? t = some old) (hst : t.spot = none) (hf0 : w.frozen? t = false) :
    Calls Tryz.prog 76 #[.iface 216 (.agg #[.int .i64 k]), .iface 219 (.pointer (some t))] w fun ev w' => ev = .returned (.bool true) ∧ w' = ((((w.alloc (.cells #[.pointer (some t)] 219)).alloc (.cells #[.pointer (some ⟨6, 219, none⟩), .pointer (some ⟨w.heap.size, 0, none⟩), .int .u64 150] 169)).alloc (.cells #[.pointer (some ⟨6, 219, none⟩), .pointer (some ⟨w.heap.size, 0, none⟩), .int .u64 150] 169)).alloc (.cells #[.int .i64 k] 216)).setCell t (.int .i64 k) := by
  have h6 := @run_callFunc_extern Tryz.prog 116 _ (fun args => ReflectliteValue.unpack (args.getD 0 (.tuple #[]))) func116 z4 z4 z4 z4
  have h7 := @run_callFunc_extern Tryz.prog 117 _ (ReflectliteValue.methodAny (ReflectliteValue.valueError "reflectlite.Value.Type" 0) (fun t _ _ _ => ReflectliteType.toType t)) func117 z4 z4 z4 z4
  have h8 := @run_callFunc_extern Tryz.prog 118 _ (ReflectliteValue.method (ReflectliteValue.valueError "reflectlite.Value.IsNil" 0) ReflectliteValue.isNil) func118 z4 z4 z4 z4
  have h27 := @run_callFunc_extern Tryz.prog 196 _ (ReflectliteType.abiMethod fun t => do pure (.int .u8 (← Rtype.kind t))) func196 z4 z4 z4 z4
  have h37 := @run_callFunc_extern Tryz.prog 206 _ (ReflectliteType.method ReflectliteType.elem) func206 z4 z4 z4 z4
  have h38 := @run_callFunc_extern Tryz.prog 207 _ (ReflectliteType.relation "Implements" ReflectliteType.implements_) func207 z4 z4 z4 z4
  have h10 := @run_callFunc_extern Tryz.prog 148 _ ReflectliteType.typeOf func148 z4 z4 z4 z4
  have h35 := @run_callFunc_extern Tryz.prog 204 _ (ReflectliteType.relation "AssignableTo" ReflectliteType.assignableTo) func204 z4 z4 z4 z4
  have h11 := @run_callFunc_extern Tryz.prog 149 _ (ReflectliteValue.method (ReflectliteValue.valueError "reflectlite.Value.Elem" 0) ReflectliteValue.elem) func149 z4 z4 z4 z4
  have h12 := @run_callFunc_extern Tryz.prog 150 _ ReflectliteValue.set func150 z4 z4 z4 z4
  have tO := pQ
  have mA := Rs
  have a25 := eH
  have v25 := mY
  have f6 := mX
  have f7 := C8
  have mK := gJ
  have mE := gK
  have mI := Va
  have k27 := C9
  have k25 := D0
  have e27 := D2
  have i25 := eG
  have n8 := uW ⟨w.heap.size, 0, none⟩ t ((w.alloc (.cells #[.pointer (some t)] 219)).alloc (.cells #[.pointer (some ⟨6, 219, none⟩), .pointer (some ⟨w.heap.size, 0, none⟩), .int .u64 150] 169)) Hb
  have hlt : 0 < w.heap.size := by
    rcases Nat.lt_or_ge 0 w.heap.size with h | h
    · exact h
    · simp [World.cell?, Array.getElem?_eq_none h] at hg
  have hg2 : ((w.alloc (.cells #[.pointer (some t)] 219)).alloc (.cells #[.pointer (some ⟨6, 219, none⟩), .pointer (some ⟨w.heap.size, 0, none⟩), .int .u64 150] 169)).cell? ⟨0, 0, none⟩ = some (.iface 199 (.agg #[.pointer (some ⟨6, 78, none⟩)])) := by
    rw [World.cell?_alloc_lt _ _ ⟨0, 0, none⟩ (by first | (simp; done) | (simp; omega)), World.cell?_alloc_lt _ _ ⟨0, 0, none⟩ hlt]; exact hg
  have htl : t.block < w.heap.size := by
    rcases Nat.lt_or_ge t.block w.heap.size with h | h
    · exact h
    · simp [World.cell?, Array.getElem?_eq_none h] at ht0
  have el := uX ⟨w.heap.size, 0, none⟩ t (((w.alloc (.cells #[.pointer (some t)] 219)).alloc (.cells #[.pointer (some ⟨6, 219, none⟩), .pointer (some ⟨w.heap.size, 0, none⟩), .int .u64 150] 169)).alloc (.cells #[.pointer (some ⟨6, 219, none⟩), .pointer (some ⟨w.heap.size, 0, none⟩), .int .u64 150] 169)) (by rw [World.cell?_alloc_lt _ _ ⟨w.heap.size, 0, none⟩ cJ]; simp)
  have st := T4 t ⟨w.heap.size + 1 + 1 + 1, 0, none⟩ k old ((((w.alloc (.cells #[.pointer (some t)] 219)).alloc (.cells #[.pointer (some ⟨6, 219, none⟩), .pointer (some ⟨w.heap.size, 0, none⟩), .int .u64 150] 169)).alloc (.cells #[.pointer (some ⟨6, 219, none⟩), .pointer (some ⟨w.heap.size, 0, none⟩), .int .u64 150] 169)).alloc (.cells #[.int .i64 k] 216))
    (by rw [World.cell?_alloc_at _ _ _ _ Hb]; rfl) rfl
    (by rw [World.cell?_alloc_lt _ _ t (by first | (simp; done) | (simp; omega)), World.cell?_alloc_lt _ _ t cJ, World.cell?_alloc_lt _ _ t cJ, World.cell?_alloc_lt _ _ t htl]; exact ht0) hst
    (by rw [World.frozen?_alloc_old _ _ t cJ, World.frozen?_alloc_old _ _ t cJ, World.frozen?_alloc_old _ _ t cJ, World.frozen?_alloc_old _ _ t (Nat.ne_of_lt htl)]; exact hf0)
  go_enter func76, ntmps76
  go_wp2
  refine wp_loop_rounds 1 ?_
  rw [rounds_succ]
  go_wp2
  go_ret
  exact ⟨rfl, rfl⟩
theorem Lm (w : World) {k : Int} {r : Nat} {old : Value} {T : TypeId} (hg : w.cell? ⟨0, 0, none⟩ = some (.iface 199 (.agg #[.pointer (some ⟨6, 78, none⟩)]))) (hr : w.heap[r]? = some (.cells [old].toArray T)) :
    Calls Tryz.prog 76 [.iface 216 (.agg [.int .i64 k].toArray), .iface 219 (.pointer (some ⟨r, 0, none⟩))].toArray w fun e w' => e = .returned (.bool true) ∧ Tr w w' [(r, .cells [old].toArray T)] [(r, .cells [Value.int .i64 k].toArray T)] := by
  have hlt := (Array.getElem?_eq_some_iff.1 hr).1
  refine (AI0 k ⟨r, 0, none⟩ old w hg (by simp [World.cell?, hr]) rfl (by simp [World.frozen?, hr])).mono ?_
  rintro e w' ⟨rfl, rfl⟩
  have hx : ∀ (o1 o2 o3 o4 : Obj) (j : Nat), j < w.heap.size → ((((w.alloc o1).alloc o2).alloc o3).alloc o4).heap[j]? = w.heap[j]? := fun o1 o2 o3 o4 j hj => by
    rw [Below.heap_alloc _ _ j cJ, Below.heap_alloc _ _ j cJ, Below.heap_alloc _ _ j cJ, Below.heap_alloc _ _ j hj]
  refine ⟨rfl, rfl, rfl, rfl, ?_, fun j hj hk => ?_, fun p hp => ?_, fun p hp => .inl ?_, by simp [keys]⟩
  · simp [World.setCell]; omega
  · rw [Below.heap_setCell _ _ _ j (fun e => hk (by subst e; simp [keys]))]
    exact hx _ _ _ _ j hj
  · have : p = (r, .cells [Value.int .i64 k].toArray T) := by simpa using hp
    subst this
    have h0 := hx (.cells #[.pointer (some ⟨r, 0, none⟩)] 219) (.cells #[.pointer (some ⟨6, 219, none⟩), .pointer (some ⟨w.heap.size, 0, none⟩), .int .u64 150] 169) (.cells #[.pointer (some ⟨6, 219, none⟩), .pointer (some ⟨w.heap.size, 0, none⟩), .int .u64 150] 169) (.cells #[.int .i64 k] 216) r hlt
    rw [hr] at h0
    simp only [World.setCell, Array.getElem?_modify, if_true]
    rw [h0]
    simp
  · have : p = (r, .cells [Value.int .i64 k].toArray T) := by simpa using hp
    subst this
    simp [keys]
end Go.Proofs.YtopjaeoklkpcpaaGreatDoor.Jd

namespace Go.Proofs.YtopjaeoklkpcpaaGreatDoor.Jd
open Go.Proofs.Tryz
set_option linter.unusedVariables false
set_option linter.unusedSimpArgs false
theorem Ku (s : Ax) : ∀ (n i : Nat) (b : Bool), Fc s n i = .error b → b = false
  | 0, i, b, h => by simp [Fc] at h
  | n + 1, i, b, h => by
    unfold Fc at h
    split at h
    · split at h
      · have h0 : (0 : Int) ≤ ((i : Nat) : Int) := by omega
        simp only [h0, not_true_eq_false, not_false_eq_true, if_true] at h
        exact (Except.error.inj h).symm
      · split at h
        · have h0 : (0 : Int) ≤ ((i : Nat) : Int) := by omega
          simp only [h0, not_true_eq_false, not_false_eq_true, if_true] at h
          exact (Except.error.inj h).symm
        · exact Ku s n _ b h
    · simp at h
theorem Yf (s : Ax) : ∀ (n i j : Nat), Fc s n i = .ok j → ∀ k : Nat, i ≤ k → k < i + n → k < s.gens.length → 0 ≤ s.gens.getD k default ∧ s.gens.getD k default ≤ 1000000000
  | 0, i, j, h, k, h1, h2, h3 => by omega
  | n + 1, i, j, h, k, h1, h2, h3 => by
    unfold Fc at h
    split at h
    · split at h
      · simp at h
      · split at h
        · simp at h
        · by_cases e : k = i
          · subst e; omega
          · exact Yf s n _ j h k z2 z2 h3
    · omega
theorem Pd (s : Ax) (x : Nat) : ∀ (n i : Nat) (l : List Int) (b : Bool), Ex s x n i l = .error b → b = false
  | 0, i, l, b, h => by simp [Ex] at h
  | n + 1, i, l, b, h => by
    unfold Ex at h
    split at h
    · split at h
      · exact (Except.error.inj h).symm
      · split at h
        · exact (Except.error.inj h).symm
        · split at h
          · exact (Except.error.inj h).symm
          · split at h
            · exact (Except.error.inj h).symm
            · exact Pd s x n _ _ b h
    · simp at h
theorem Yg (s : Ax) (x : Nat) : ∀ (n i : Nat) (l : List Int) (r : Nat × List Int), Ex s x n i l = .ok r → ∀ k : Nat, i ≤ k → k < i + n → k < s.free.length → 0 ≤ s.free.getD k default ∧ s.free.getD k default < ((s.used.length : Nat) : Int) ∧ s.used.getD ((s.free.getD k default)).toNat default = false
  | 0, i, l, r, h, k, h1, h2, h3 => by omega
  | n + 1, i, l, r, h, k, h1, h2, h3 => by
    unfold Ex at h
    split at h
    · split at h
      · simp at h
      · split at h
        · simp at h
        · split at h
          · simp at h
          · split at h
            · simp at h
            · by_cases e : k = i
              · subst e; refine ⟨by omega, by omega, by simp_all⟩
              · exact Yg s x n _ _ r h k z2 z2 h3
    · omega
theorem Wm {s : Ax} (h : Ep s = true) : 1 ≤ s.gens.length ∧ s.gens.length ≤ 64 ∧ s.used.length = s.gens.length ∧ (∀ k : Nat, k < s.gens.length → 0 ≤ s.gens.getD k default ∧ s.gens.getD k default ≤ 1000000000) ∧ (∀ k : Nat, k < s.free.length → 0 ≤ s.free.getD k default ∧ s.free.getD k default < ((s.used.length : Nat) : Int) ∧ s.used.getD ((s.free.getD k default)).toNat default = false) := by
  unfold Ep at h
  split at h
  · split at h
    · split at h
      · exact absurd h Gi
      · rename_i h1 h2 h3
        have h3' : ((s.used.length : Nat) : Int) = ((s.gens.length : Nat) : Int) := by omega
        refine ⟨by omega, by omega, by omega, ?_, ?_⟩
        · cases e : Fc s (s.gens.length + 1) 0 with
          | error b =>
            have := Ku s _ _ _ e
            subst this
            rw [e] at h; simp [Bn] at h
          | ok j =>
            intro k hk
            exact Yf s _ _ _ e k z2 z2 hk
        · cases e : Fc s (s.gens.length + 1) 0 with
          | error b =>
            have := Ku s _ _ _ e
            subst this
            rw [e] at h; simp [Bn] at h
          | ok j =>
            rw [e] at h
            simp only [Bn] at h
            cases e2 : Ex s j (s.free.length + 1) 0 ([] : List Int) with
            | error b =>
              have := Pd s _ _ _ _ _ e2
              subst this
              rw [e2] at h; simp [Gz] at h
            | ok r =>
              intro k hk
              exact Yg s _ _ _ _ _ e2 k z2 z2 hk
    · exact absurd h Gi
  · exact absurd h Gi
theorem Vj (s : Ax) (x : Nat) : ∀ (n i : Nat) (l : List Int) (r : Nat × List Int), Ex s x n i l = .ok r → s.free.length < i + n → i ≤ s.free.length → r.2.length = l.length + (s.free.length - i)
  | 0, i, l, r, h, h1, h2 => by omega
  | n + 1, i, l, r, h, h1, h2 => by
    unfold Ex at h
    split at h
    · split at h
      · simp at h
      · split at h
        · simp at h
        · split at h
          · simp at h
          · split at h
            · simp at h
            · have := Vj s x n _ _ r h z2 z2
              simp only [List.length_append, List.length_cons, List.length_nil] at this
              omega
    · have := Except.ok.inj h
      subst this; simp only; omega
theorem Qt (s : Ax) (a b : Nat) (l : List Int) : ∀ (n i : Nat) (x : Int), (Gn s a b l n i x).2 ≤ x
  | 0, i, x => by simp [Gn]
  | n + 1, i, x => by
    unfold Gn
    split
    · split
      · have := Qt s a b l n (i + 1) (x - 1); omega
      · exact Qt s a b l n (i + 1) x
    · simp
theorem mZ {s : Ax} (h : Ep s = true) : s.free.length ≤ 64 := by
  have h0 := Wm h
  unfold Ep at h
  rw [if_pos z2, if_pos z2, if_neg z2] at h
  cases e : Fc s (s.gens.length + 1) 0 with
  | error b =>
    have := Ku s _ _ _ e
    subst this
    rw [e] at h; simp [Bn] at h
  | ok j =>
    rw [e] at h
    simp only [Bn] at h
    cases e2 : Ex s j (s.free.length + 1) 0 ([] : List Int) with
    | error b =>
      have := Pd s _ _ _ _ _ e2
      subst this
      rw [e2] at h; simp [Gz] at h
    | ok r =>
      have hl := Vj s _ _ _ _ _ e2 z2 z2
      rw [e2] at h
      obtain ⟨r1, r2⟩ := r
      simp only [Gz, It] at h
      have h6 := Qt s j r1 r2 (s.used.length + 1) 0 ((s.gens.length : Nat) : Int)
      split at h
      · exact absurd h Gi
      · rename_i h7
        simp only [List.length_nil] at hl
        omega
theorem T5 {l : List Int} {a b : Int} (ha : a ≤ 0) (hb : 0 ≤ b) (h : ∀ k : Nat, k < l.length → a ≤ l.getD k default ∧ l.getD k default ≤ b) (k : Nat) : a ≤ l.getD k default ∧ l.getD k default ≤ b := by
  by_cases e : k < l.length
  · exact h k e
  · have : l.getD k default = 0 := by rw [List.getD_eq_getElem?_getD, List.getElem?_eq_none z2]; rfl
    omega
theorem Sx {s : Ax} (h : Ep s = true) : s.free.length ≤ 64 ∧ 1 ≤ s.gens.length ∧ s.gens.length ≤ 64 ∧ s.used.length = s.gens.length ∧ (0 ≤ (((s.free.length : Nat) : Int) - 1) → 0 ≤ s.free.getD ((((s.free.length : Nat) : Int) - 1)).toNat default ∧ s.free.getD ((((s.free.length : Nat) : Int) - 1)).toNat default < ((s.gens.length : Nat) : Int)) ∧ 0 ≤ s.gens.getD ((s.free.getD ((((s.free.length : Nat) : Int) - 1)).toNat default)).toNat default ∧ s.gens.getD ((s.free.getD ((((s.free.length : Nat) : Int) - 1)).toNat default)).toNat default ≤ 1000000000 := by
  obtain ⟨h1, h2, h3, h4, h5⟩ := Wm h
  refine ⟨mZ h, h1, h2, h3, ?_, T5 z2 z2 h4 _⟩
  intro h6
  have := h5 ((((s.free.length : Nat) : Int) - 1)).toNat z2
  omega
theorem Sy (s : Ax) : ∀ (n i : Nat) (l : List Ar), l.length ≤ i → i ≤ s.used.length → (Hj s n i l).2.length ≤ s.used.length
  | 0, i, l, h, h2 => by simp only [Hj]; omega
  | n + 1, i, l, h, h2 => by
    unfold Hj
    split
    · split
      · exact Sy s n _ _ cJ z2
      · exact Sy s n _ _ z2 z2
    · simp only; omega
theorem D4 (s : Ax) : (Dx s).length ≤ 64 := by
  unfold Dx
  cases h : Ep s
  · simp
  · obtain ⟨h1, h2, h3, _, _⟩ := Wm h
    have := Sy s (s.used.length + 1) 0 [] Hb z2
    simp only [Bool.not_true, Bool.false_eq_true, if_false, It]; omega
theorem Wn (s : Ax) : ∀ (n i : Nat) (l : List Ar), (∀ x ∈ l, 0 ≤ x.slot ∧ x.slot < ((s.used.length : Nat) : Int)) → ∀ x ∈ (Hj s n i l).2, 0 ≤ x.slot ∧ x.slot < ((s.used.length : Nat) : Int)
  | 0, i, l, h => by simpa only [Hj] using h
  | n + 1, i, l, h => by
    unfold Hj
    split
    · split
      · refine Wn s n _ _ ?_
        intro x hx
        simp only [List.mem_append, List.mem_singleton] at hx
        rcases hx with hx | hx
        · exact h x hx
        · subst hx; exact ⟨by simp only; omega, by simp only; omega⟩
      · exact Wn s n _ _ h
    · simpa only using h
theorem T6 (s : Ax) : ∀ x ∈ Dx s, 0 ≤ x.slot ∧ x.slot < ((s.used.length : Nat) : Int) := by
  unfold Dx
  cases h : Ep s
  · simp
  · simp only [Bool.not_true, Bool.false_eq_true, if_false, It]
    exact Wn s _ _ _ Hb
theorem aM (s : Ax) (h : Ar) : ∀ (n i : Nat) (b : Bool), Hd s h n i = .error b → b = true ∧ ∃ x ∈ Dx s, x = h
  | 0, i, b, e => by simp [Hd] at e
  | n + 1, i, b, e => by
    unfold Hd at e
    split at e
    · rename_i hi
      split at e
      · rename_i h2
        refine ⟨(Except.error.inj e).symm, (Dx s).getD i default, ?_, ?_⟩
        · have hi' : i < (Dx s).length := by omega
          rw [List.getD_eq_getElem?_getD, List.getElem?_eq_getElem hi']; exact List.getElem_mem hi'
        · obtain ⟨a1, a2⟩ := h2
          cases h with | mk a b => cases hh : (Dx s).getD i default with | mk c d => rw [hh] at a1 a2; simp only at a1 a2; subst a1 a2; rfl
      · exact aM s h n _ b e
    · simp at e
theorem vA {s : Ax} {h : Ar} (e : Ss s h = true) : h ∈ Dx s := by
  unfold Ss at e
  cases e2 : Hd s h ((Dx s).length + 1) 0 with
  | error b => obtain ⟨_, x, hx, hh⟩ := aM s h _ _ b e2; subst hh; exact hx
  | ok j => rw [e2] at e; simp [Bn] at e
theorem D5 {s : Ax} {h : Ar} (e : Ss s h = true) : 0 ≤ h.slot ∧ h.slot < ((s.used.length : Nat) : Int) := T6 s h (vA e)
end Go.Proofs.YtopjaeoklkpcpaaGreatDoor.Jd

namespace Go.Proofs.YtopjaeoklkpcpaaGreatDoor.Jd
open Go.Proofs.Tryz
open Go.Proofs
open Go.RowKit (Below)
set_option maxRecDepth 100000
set_option maxHeartbeats 8000000
set_option linter.unusedVariables false
set_option linter.unusedSimpArgs false
def Yh (x : Ar) : List Value := [vi x.slot, vi x.gen]
theorem Iz : Dj Yh 2 := ⟨by omega, fun _ => rfl, fun _ => rfl⟩
theorem Da : Tryz.prog.follows .mixedOrders = true := by kernel_rfl
theorem Ue : Bo Tryz.prog 25 0 0 := fun r k w => by simp [Instr.fieldAt, Instr.sureAddr, fieldPlace, Bc]
theorem Qu : Bo Tryz.prog 25 1 1 := fun r k w => by simp [Instr.fieldAt, Instr.sureAddr, fieldPlace, Bc]
theorem Kv : Bo Tryz.prog 25 2 2 := fun r k w => by simp [Instr.fieldAt, Instr.sureAddr, fieldPlace, Bc]
theorem Mb : Bo Tryz.prog 42 0 0 := fun r k w => by simp [Instr.fieldAt, Instr.sureAddr, fieldPlace, Bc]
theorem Yi : Bo Tryz.prog 131 0 0 := fun r k w => by simp [Instr.fieldAt, Instr.sureAddr, fieldPlace, Bc]
theorem AS3 : Hq Tryz.prog 25 [(0, 1), (1, 1), (2, 1)] := ⟨_, fun w => runUnderlying25 w, fun w => by simp⟩
theorem AS4 : Hq Tryz.prog 42 [(0, 1), (1, 1)] := ⟨_, fun w => runUnderlying42 w, fun w => by simp⟩
theorem pT : Hq Tryz.prog 131 [(0, 3)] := ⟨_, fun w => runUnderlying131 w, fun w => by simp⟩
theorem pU (a0 b0 : Int) (a1 b1 : Int) (n : Nat) (w : World) : (Op.equalIn (n + 2) 42 (Value.agg [vi a0, vi a1].toArray) (Value.agg [vi b0, vi b1].toArray)).run Tryz.prog w = .ok (decide (a0 = b0 ∧ a1 = b1)) w := by
 rw [show n + 2 = (n + 1) + 1 from rfl]
 unfold Op.equalIn
 simp [part, Tw (P := Tryz.prog) (t := 3) n .i64 _ _ runUnderlying3]
 by_cases h0 : a0 = b0 <;> by_cases h1 : a1 = b1 <;> simp_all
theorem D6 (x y : Operand) (a0 b0 : Int) (a1 b1 : Int) (w : World) : (do eqGuard .eql 42 x y (Value.agg [vi a0, vi a1].toArray) (Value.agg [vi b0, vi b1].toArray); binOp .eql 42 (Value.agg [vi a0, vi a1].toArray) (Value.agg [vi b0, vi b1].toArray) : Sem Value).run Tryz.prog w = .ok (.bool (decide (a0 = b0 ∧ a1 = b1))) w := by
 have h2 : (binOp .eql 42 (Value.agg [vi a0, vi a1].toArray) (Value.agg [vi b0, vi b1].toArray)).run Tryz.prog w = .ok (.bool (decide (a0 = b0 ∧ a1 = b1))) w := by
  show (do pure (.bool (← Op.equal 42 _ _)) : Sem Value).run Tryz.prog w = _
  simp only [Sem.run_bind, Op.equal, Op.maxDepth, pU a0 b0 a1 b1 9998, Result.andThen_ok, Sem.run_pure]
 simp [eqGuard]
 simpa using h2
theorem AA3 (x y : Operand) (a0 b0 : Int) (a1 b1 : Int) (w : World) : (do eqGuard .neq 42 x y (Value.agg [vi a0, vi a1].toArray) (Value.agg [vi b0, vi b1].toArray); binOp .neq 42 (Value.agg [vi a0, vi a1].toArray) (Value.agg [vi b0, vi b1].toArray) : Sem Value).run Tryz.prog w = .ok (.bool (decide (¬ (a0 = b0 ∧ a1 = b1)))) w := by
 have h2 : (binOp .neq 42 (Value.agg [vi a0, vi a1].toArray) (Value.agg [vi b0, vi b1].toArray)).run Tryz.prog w = .ok (.bool (decide (¬ (a0 = b0 ∧ a1 = b1)))) w := by
  show (do pure (.bool (!(← Op.equal 42 _ _))) : Sem Value).run Tryz.prog w = _
  simp only [Sem.run_bind, Op.equal, Op.maxDepth, pU a0 b0 a1 b1 9998, Result.andThen_ok, Sem.run_pure]
  congr 2
  simp
 simp [eqGuard]
 simpa using h2
theorem Fo : Ty Tryz.prog 3 1 8 (vi 0) := ⟨⟨Tryz.t3, by kernel_rfl, rfl, rfl, rfl⟩, rfl⟩
theorem eJ : Ty Tryz.prog 4 1 1 (Value.bool false) := ⟨⟨Tryz.t4, by kernel_rfl, rfl, rfl, rfl⟩, rfl⟩
theorem AA4 : Ty Tryz.prog 42 2 16 (Value.agg [(vi 0), (vi 0)].toArray) := ⟨⟨Tryz.t42, by kernel_rfl, rfl, rfl, rfl⟩, rfl⟩
theorem He {w : World} {α : Type} {enc : α → List Value} {k : Nat} {a : Option Addr} {s : List α} (h : Sl w enc k a s) (hn : Option.isNone a = true) : ([] : List α) = s := by
 have : a = none := by simpa using hn
 subst this
 exact (Sl.none h).symm
theorem D7 (w : World) {s1_a : Option Addr} {s1_c : Nat} {s2_a : Option Addr} {s2_c : Nat} {s1 : List Int} {s2 : List Int} (h_s1 : Sl w eI 1 s1_a s1) (n_s1 : s1.length ≤ 1000) (h_s2 : Sl w eI 1 s2_a s2) (n_s2 : s2.length ≤ 1000) : Hn Tryz.prog 101 [(vs s1_a s1.length s1_c), (vs s2_a s2.length s2_c)] w (Value.bool (K2 s1 s2)) := by
 have hF := Is.refl (K2 s1 s2)
 refine enter func101 ntmps101 (h := ?_)
 refine Ig ?_
 refine gA ?_
 refine Cg ?_
 refine gA ?_
 refine Vy ?_
 refine Au rfl (fun hq1 => ?_) (fun hq1 => ?_)
 ·refine Bg ?_
  refine Kz ?_
  refine Ab results101 z1 (fun w1 hw1 => ?_)
  exact ⟨(rq (hF.pos hq1)), hw1.ext_out⟩
 refine Js ?_
 refine Z4 ?_
 refine gA ?_
 refine Lq ?_
 refine Dr (σ1 := Nat) (σ2 := Nat) (fun n_2 x_1 => []) (fun n_2 x_1 => [(0, (vs s1_a s1.length s1_c)), (1, (vs s2_a s2.length s2_c)), (4, (Value.bool false)), (12, (vi ((s1.length : Nat) : Int))), (13, (vi ((x_1 : Nat) : Int)))]) (fun n_2 x_1 => s1.length - x_1 < n_2 ∧ Is (Iu s1 s2 (s1.length + 1) 0) (Iu s1 s2 n_2 x_1) ∧ x_1 ≤ s1.length) (fun n_2 x_1 => n_2) (s1.length + 1) 0 ?_ se (List.Perm.refl _) ?_
 ·exact ⟨Nat.lt_succ_self _, Is.refl _, Kh⟩
 ·rintro (_ | n_2) x_1 ⟨hm4, hF3, hi5⟩
  ·omega
  refine Zd ?_
  refine Au rfl (fun hq2 => ?_) (fun hq2 => ?_)
  rotate_left
  ·refine Ca ?_
   refine La ?_
   refine Ab results101 z1 (fun w1 hw1 => ?_)
   exact ⟨(rq ((hF.neg hq1).ok1 (hF3.neg hq2))), hw1.ext_out⟩
  refine fJ ?_
  refine Z4 ?_
  refine Rw ?_
  refine Y2 ?_
  refine Aw (Cb (n := s1.length) runUnderlying22 sizeOf3 x_1 (Bp.of_base h_s1) (gD z3) Jv) (k := ?_)
  refine Aw (Bz isAgg3 x_1 0 (Bp.of_base h_s1) (gD z3)) (k := ?_)
  refine Xa ?_
  refine Aw (Cb (n := s2.length) runUnderlying22 sizeOf3 x_1 (Bp.of_base h_s2) (gD z3) Jv) (k := ?_)
  refine Aw (Bz isAgg3 x_1 0 (Bp.of_base h_s2) (gD z3)) (k := ?_)
  refine Aw Lc (k := ?_)
  refine Xd ?_
  refine Au rfl (fun hq3 => ?_) (fun hq3 => ?_)
  rotate_left
  ·refine Bq ?_
   refine jC ?_
   exact Dp n_2 (x_1 + 1) ⟨by omega, ((hF3.pos hq2).neg hq3), z2⟩ (Nat.lt_succ_self _) se (List.Perm.refl _)
  refine Sa ?_
  refine Ab results101 z1 (fun w1 hw1 => ?_)
  exact ⟨(rq ((hF.neg hq1).er1 ((hF3.pos hq2).pos hq3))), hw1.ext_out⟩

theorem AI1 (w : World) {s1_a : Option Addr} {s1_c : Nat} {s2_a : Option Addr} {s2_c : Nat} {s1 : List Bool} {s2 : List Bool} (h_s1 : Sl w eB 1 s1_a s1) (n_s1 : s1.length ≤ 1000) (h_s2 : Sl w eB 1 s2_a s2) (n_s2 : s2.length ≤ 1000) : Hn Tryz.prog 102 [(vs s1_a s1.length s1_c), (vs s2_a s2.length s2_c)] w (Value.bool (T2 s1 s2)) := by
 have hF := Is.refl (T2 s1 s2)
 refine enter func102 ntmps102 (h := ?_)
 refine Ig ?_
 refine Af (Ei runUnderlying23) (k := ?_)
 refine Cg ?_
 refine Af (Ei runUnderlying23) (k := ?_)
 refine Vy ?_
 refine Au rfl (fun hq1 => ?_) (fun hq1 => ?_)
 ·refine Bg ?_
  refine Kz ?_
  refine Ab results102 z1 (fun w1 hw1 => ?_)
  exact ⟨(rq (hF.pos hq1)), hw1.ext_out⟩
 refine Js ?_
 refine Z4 ?_
 refine yF ?_
 refine Dr (σ1 := Nat) (σ2 := Nat) (fun n_2 x_1 => []) (fun n_2 x_1 => [(0, (vs s1_a s1.length s1_c)), (1, (vs s2_a s2.length s2_c)), (4, (Value.bool false)), (12, (vi ((s1.length : Nat) : Int))), (13, (vi ((x_1 : Nat) : Int)))]) (fun n_2 x_1 => s1.length - x_1 < n_2 ∧ Is (Iv s1 s2 (s1.length + 1) 0) (Iv s1 s2 n_2 x_1) ∧ x_1 ≤ s1.length) (fun n_2 x_1 => n_2) (s1.length + 1) 0 ?_ se (List.Perm.refl _) ?_
 ·exact ⟨Nat.lt_succ_self _, Is.refl _, Kh⟩
 ·rintro (_ | n_2) x_1 ⟨hm4, hF3, hi5⟩
  ·omega
  refine Zd ?_
  refine Au rfl (fun hq2 => ?_) (fun hq2 => ?_)
  rotate_left
  ·refine Ca ?_
   refine La ?_
   refine Ab results102 z1 (fun w1 hw1 => ?_)
   exact ⟨(rq ((hF.neg hq1).ok1 (hF3.neg hq2))), hw1.ext_out⟩
  refine fJ ?_
  refine Z4 ?_
  refine Rw ?_
  refine Y2 ?_
  refine Aw (Cb (n := s1.length) runUnderlying23 sizeOf4 x_1 (Bp.of_base h_s1) (gD z3) Jv) (k := ?_)
  refine Aw (Bz isAgg4 x_1 0 (Bp.of_base h_s1) (gD z3)) (k := ?_)
  refine Xa ?_
  refine Aw (Cb (n := s2.length) runUnderlying23 sizeOf4 x_1 (Bp.of_base h_s2) (gD z3) Jv) (k := ?_)
  refine Aw (Bz isAgg4 x_1 0 (Bp.of_base h_s2) (gD z3)) (k := ?_)
  refine Aw (yT runUnderlying4) (k := ?_)
  refine Xd ?_
  refine Ct rfl (fun hq3 => ?_) (fun hq3 => ?_)
  rotate_left
  ·refine Bq ?_
   refine jC ?_
   exact Dp n_2 (x_1 + 1) ⟨by omega, ((hF3.pos hq2).f hq3), z2⟩ (Nat.lt_succ_self _) se (List.Perm.refl _)
  refine Sa ?_
  refine Ab results102 z1 (fun w1 hw1 => ?_)
  exact ⟨(rq ((hF.neg hq1).er1 ((hF3.pos hq2).t hq3))), hw1.ext_out⟩

theorem Wo (w : World) {s_a : Option Addr} {s_c : Nat} {s : List Int} (h_s : Sl w eI 1 s_a s) (n_s : s.length ≤ 1000000) : Calls Tryz.prog 71 (List.toArray [(vs s_a s.length s_c)]) w fun e w2 => ∃ a1 : Option Addr, ∃ c1 : Nat, ∃ B1 : Aj, e = .returned (vs a1 s.length c1) ∧ Dh w w2 B1 ∧ Bi eI 1 3 a1 c1 B1 s := by
 have hF := Is.refl s
 refine enter func71 ntmps71 (h := ?_)
 refine Ig ?_
 refine Af (Xs runUnderlying22) (k := ?_)
 refine Z0 ?_
 refine Ct rfl (fun hq1 => ?_) (fun hq1 => ?_)
 ·refine Bg ?_
  refine Kz ?_
  refine Ab results71 z1 (fun w1 hw1 => ?_)
  have hcan0 : ([] : List Int) = s := by (first | rfl | (exact He h_s Ey))
  have hlen0 : 0 = s.length := by first | (rw [← hcan0]; done) | (rw [← hcan0]; first | rfl | (simp; done) | (simp only [List.length_append, List.length_take, List.length_drop, List.length_set, List.length_replicate, List.length_cons, List.length_nil, List.length_map, Cq, Cp]; omega) | (simp; omega))
  exact ⟨none, 0, [], kZ, (hw1.fresh_out.sub Nr), (hcan0 ▸ Bi.nil)⟩
 refine Rr ?_
 refine Ah Ag (Eb (l := []) runUnderlying22 sizeOf3 zeroValue3) (k := fun r1 hr1 => ?_)
 refine Cg ?_
 refine Az s (List.nil_append _) Fo underlying22 Bh Bi.nil (List.Perm.refl _) (Bp.of_base h_s) ⟨by omega, by omega⟩ (n := 0) (m := s.length) (k := fun ax1 cx1 Bx1 hox1 => ?_)
 refine Z6 ?_
 refine Ab results71 z1 (fun w1 hw1 => ?_)
 have hcan0 : s = s := by (first | rfl | (exact He h_s Ey))
 have hlen0 : s.length = s.length := by first | (rw [← hcan0]; done) | (rw [← hcan0]; first | rfl | (simp; done) | (simp only [List.length_append, List.length_take, List.length_drop, List.length_set, List.length_replicate, List.length_cons, List.length_nil, List.length_map, Cq, Cp]; omega) | (simp; omega))
 exact ⟨ax1, cx1, Bx1, kZ, (Ba (L := Bx1) (hw1.perm (List.Perm.refl _)) rfl.symm), (hcan0 ▸ hox1)⟩

theorem eK (w : World) {s_a : Option Addr} {s_c : Nat} {s : List Bool} (h_s : Sl w eB 1 s_a s) (n_s : s.length ≤ 1000000) : Calls Tryz.prog 72 (List.toArray [(vs s_a s.length s_c)]) w fun e w2 => ∃ a1 : Option Addr, ∃ c1 : Nat, ∃ B1 : Aj, e = .returned (vs a1 s.length c1) ∧ Dh w w2 B1 ∧ Bi eB 1 4 a1 c1 B1 s := by
 have hF := Is.refl s
 refine enter func72 ntmps72 (h := ?_)
 refine Ig ?_
 refine Af (Xs runUnderlying23) (k := ?_)
 refine Z0 ?_
 refine Ct rfl (fun hq1 => ?_) (fun hq1 => ?_)
 ·refine Bg ?_
  refine Kz ?_
  refine Ab results72 z1 (fun w1 hw1 => ?_)
  have hcan0 : ([] : List Bool) = s := by (first | rfl | (exact He h_s Ey))
  have hlen0 : 0 = s.length := by first | (rw [← hcan0]; done) | (rw [← hcan0]; first | rfl | (simp; done) | (simp only [List.length_append, List.length_take, List.length_drop, List.length_set, List.length_replicate, List.length_cons, List.length_nil, List.length_map, Cq, Cp]; omega) | (simp; omega))
  exact ⟨none, 0, [], kZ, (hw1.fresh_out.sub Nr), (hcan0 ▸ Bi.nil)⟩
 refine Rr ?_
 refine Ah Ag (Eb (l := []) runUnderlying23 sizeOf4 zeroValue4) (k := fun r1 hr1 => ?_)
 refine Cg ?_
 refine Az s (List.nil_append _) eJ underlying23 Gh Bi.nil (List.Perm.refl _) (Bp.of_base h_s) ⟨by omega, by omega⟩ (n := 0) (m := s.length) (k := fun ax1 cx1 Bx1 hox1 => ?_)
 refine Z6 ?_
 refine Ab results72 z1 (fun w1 hw1 => ?_)
 have hcan0 : s = s := by (first | rfl | (exact He h_s Ey))
 have hlen0 : s.length = s.length := by first | (rw [← hcan0]; done) | (rw [← hcan0]; first | rfl | (simp; done) | (simp only [List.length_append, List.length_take, List.length_drop, List.length_set, List.length_replicate, List.length_cons, List.length_nil, List.length_map, Cq, Cp]; omega) | (simp; omega))
 exact ⟨ax1, cx1, Bx1, kZ, (Ba (L := Bx1) (hw1.perm (List.Perm.refl _)) rfl.symm), (hcan0 ▸ hox1)⟩

theorem iH (w : World) {s_gens_a : Option Addr} {s_gens_c : Nat} {s_used_a : Option Addr} {s_used_c : Nat} {s_free_a : Option Addr} {s_free_c : Nat} {s : Ax} (h_s_gens : Sl w eI 1 s_gens_a s.gens) (n_s_gens : s.gens.length ≤ 1000) (h_s_used : Sl w eB 1 s_used_a s.used) (n_s_used : s.used.length ≤ 1000) (h_s_free : Sl w eI 1 s_free_a s.free) (n_s_free : s.free.length ≤ 1000) : Hn Tryz.prog 52 [(Value.agg [(vs s_gens_a s.gens.length s_gens_c), (vs s_used_a s.used.length s_used_c), (vs s_free_a s.free.length s_free_c)].toArray)] w (Value.bool (Ep s)) := by
 have hF := Is.refl (Ep s)
 refine enter func52 ntmps52 (h := ?_)
 refine Z2 ?_
 refine Ah Ag Jp (k := fun r1 hr1 => ?_)
 refine Jr ?_
 refine bI ?_
 refine Af (Ef (cs := [_, _, _]) zeroValue131 pT) (k := ?_)
 refine Ah Ag Jp (k := fun r2 hr2 => ?_)
 refine Ah Ag (Eb (l := [_, _, _]) runUnderlying184 sizeOf138 zeroValue138) (k := fun r3 hr3 => ?_)
 refine Fa (args := [_, _]) (Ad call88) func88 ntmps88 ?_
 refine Ig ?_
 refine Af (Ei runUnderlying184) (k := ?_)
 refine Lq ?_
 refine Lj ?_
 refine K8 ?_
 refine Af (Hg runUnderlying184 sizeOf138 0) (k := ?_)
 refine Af (Bv isAgg138) (k := ?_)
 refine Xh ?_
 refine Fa (args := [_]) (Ad call89) func89 ntmps89 ?_
 refine Z2 ?_
 refine Rw ?_
 refine Fi Da 32 [(true, 0), (true, 1), (true, 2), (true, 3), (true, 4), (true, 5), (true, 6), (true, 7), (true, 8), (true, 9), (true, 10), (true, 11), (true, 12), (true, 13), (true, 14), (true, 15), (true, 16), (true, 17), (true, 18), (true, 19), (true, 20), (true, 21), (true, 22), (true, 23), (true, 24), (true, 25), (true, 26), (true, 27), (true, 28), (true, 29), (true, 30), (true, 31)] z4 ?_
 refine Gu ?_
 refine fV ?_
 refine Aw Y1 (k := ?_)
 refine Aw Ki (k := ?_)
 refine Gu ?_
 refine Fm 10 rfl (fun hq1 => ?_) (fun hq1 => ?_)
 rotate_left
 ·refine Bm 7 rfl ?_
  refine oL ?_
  refine Bm 13 rfl ?_
  refine Xg ?_
  refine Cc results89 z1 ?_
  refine AE3 ?_
  refine Ab results52 z1 (fun w1 hw1 => ?_)
  exact ⟨(rq (hF.neg hq1)), hw1.ext_out⟩
 refine Mq ?_
 refine yI ?_
 refine Bl oK (k := ?_)
 refine Bl Y1 (k := ?_)
 refine Bl Pt (k := ?_)
 refine fH ?_
 refine Fm 19 rfl (fun hq2 => ?_) (fun hq2 => ?_)
 rotate_left
 ·refine Bm 13 rfl ?_
  refine Xg ?_
  refine Cc results89 z1 ?_
  refine AE3 ?_
  refine Ab results52 z1 (fun w1 hw1 => ?_)
  exact ⟨(rq ((hF.pos hq1).neg hq2)), hw1.ext_out⟩
 refine Mq ?_
 refine xP ?_
 refine Bl (Ai Qu) (k := ?_)
 refine Bl (Bv isAgg23) (k := ?_)
 refine Bl (Ei runUnderlying23) (k := ?_)
 refine Mq ?_
 refine yI ?_
 refine Bl oK (k := ?_)
 refine Bl Y1 (k := ?_)
 refine Bl Nv (k := ?_)
 refine Aw Hh (k := ?_)
 refine Y3 ?_
 refine Cc results89 z1 ?_
 refine Ze ?_
 refine Au rfl (fun hq3 => ?_) (fun hq3 => ?_)
 ·refine Bg ?_
  refine Xj ?_
  refine K0 ?_
  refine Ab results52 z1 (fun w1 hw1 => ?_)
  exact ⟨(rq (((hF.pos hq1).pos hq2).pos hq3)), hw1.ext_out⟩
 refine fS ?_
 refine Af (Hg runUnderlying184 sizeOf138 1) (k := ?_)
 refine Af (Bv isAgg138) (k := ?_)
 refine Xh ?_
 refine Fa (args := [_]) (Ad call90) func90 ntmps90 ?_
 refine Ut ?_
 refine Ut ?_
 refine Z4 ?_
 refine fG ?_
 refine tW ?_
 refine Fa (args := [_, _]) (Ad call129) func129 ntmps129 ?_
 refine Ut ?_
 refine Pk ?_
 refine Fa (args := [_, _]) (Ad call151) func151 ntmps151 ?_
 refine Ig ?_
 refine gA ?_
 refine Lq ?_
 refine Dr (σ1 := Nat) (σ2 := Nat) (fun n_2 x_1 => ((r3, oc [(Value.func (.func 89) [].toArray [].toArray), (Value.func (.func 90) [].toArray [].toArray), (Value.func (.func 91) [].toArray [].toArray)] 138) :: ((r2, oc [(vs s_gens_a s.gens.length s_gens_c), (vs s_used_a s.used.length s_used_c), (vs s_free_a s.free.length s_free_c)] 131) :: ((r1, oc [(vs s_gens_a s.gens.length s_gens_c), (vs s_used_a s.used.length s_used_c), (vs s_free_a s.free.length s_free_c)] 25) :: [])))) (fun n_2 x_1 => [(0, (vs s_gens_a s.gens.length s_gens_c)), (1, (Value.func (.func 128) [].toArray [].toArray)), (4, (vi 0)), (7, (vi ((s.gens.length : Nat) : Int))), (8, (vi ((x_1 : Nat) : Int)))]) (fun n_2 x_1 => s.gens.length - x_1 < n_2 ∧ Is (Fc s (s.gens.length + 1) 0) (Fc s n_2 x_1) ∧ x_1 ≤ s.gens.length) (fun n_2 x_1 => n_2) (s.gens.length + 1) 0 ?_ se (List.Perm.refl _) ?_
 ·exact ⟨Nat.lt_succ_self _, Is.refl _, Kh⟩
 ·rintro (_ | n_2) x_1 ⟨hm4, hF3, hi5⟩
  ·omega
  refine Zd ?_
  refine Au rfl (fun hq4 => ?_) (fun hq4 => ?_)
  rotate_left
  ·refine Ca ?_
   refine La ?_
   refine AF4 ?_
   refine Z6 ?_
   refine Cc results129 z1 ?_
   refine Af Lv (k := ?_)
   refine Z6 ?_
   refine Cc results90 z1 ?_
   refine Rj ?_
   refine fO ?_
   refine AE5 ?_
   refine AF1 ?_
   refine cR ?_
   refine Ah Ag hO (k := fun r12 hr12 => ?_)
   refine Xc ?_
   refine fG ?_
   refine lO ?_
   refine Lq ?_
   refine bT (σ1 := Nat) (σ2 := Nat) (σ3 := List Int) (σ4 := Array MapEntry) (σ5 := Nat) (fun n_34 x_32 x_33 x_33e x_33k => ((r12, Obj.map x_33e x_33k) :: ((r3, oc [(Value.func (.func 89) [].toArray [].toArray), (Value.func (.func 90) [].toArray [].toArray), (Value.func (.func 91) [].toArray [].toArray)] 138) :: ((r2, oc [(vs s_gens_a s.gens.length s_gens_c), (vs s_used_a s.used.length s_used_c), (vs s_free_a s.free.length s_free_c)] 131) :: ((r1, oc [(vs s_gens_a s.gens.length s_gens_c), (vs s_used_a s.used.length s_used_c), (vs s_free_a s.free.length s_free_c)] 25) :: []))))) (fun n_34 x_32 x_33 x_33e x_33k => [(0, (Value.pointer (some ⟨r2, 0, none⟩))), (2, (Value.bool false)), (3, (Value.map (some r12))), (12, (vs s_free_a s.free.length s_free_c)), (13, (vi ((s.free.length : Nat) : Int))), (14, (vi ((x_32 : Nat) : Int)))]) (fun n_34 x_32 x_33 x_33e x_33k => s.free.length - x_32 < n_34 ∧ Is (Ex s x_1 (s.free.length + 1) 0 ([] : List Int)) (Ex s x_1 n_34 x_32 x_33) ∧ Na (fun x : Int => vi x) x_33e x_33 ∧ x_32 ≤ s.free.length) (fun n_34 x_32 x_33 x_33e x_33k => n_34) (s.free.length + 1) 0 ([] : List Int) (#[]) 0 ?_ se (List.Perm.refl _) ?_
   ·exact ⟨Nat.lt_succ_self _, Is.refl _, Na.nil, Kh⟩
   ·rintro (_ | n_34) x_32 x_33 x_33e x_33k ⟨hm36, hF35, hx_33, hi37⟩
    ·omega
    refine Zd ?_
    refine Au rfl (fun hq25 => ?_) (fun hq25 => ?_)
    rotate_left
    ·refine Ca ?_
     refine lR ?_
     refine fG ?_
     refine yG ?_
     refine Ah Ag (Dn (l := [_]) zeroValue3) (k := fun r13 hr13 => ?_)
     refine O8 ?_
     refine Z4 ?_
     refine N4 ?_
     refine Ah Ag (Hi (l := [_])) (k := fun r14 hr14 => ?_)
     refine fW ?_
     refine P0 ?_
     refine Ij Ag rfl call126 func126 ntmps126 (fun l15 rD15 rr15 hl15 => ?_)
     refine P8 ?_
     refine fG ?_
     refine fM ?_
     refine yF ?_
     refine bS (σ1 := Nat) (σ2 := Nat) (σ3 := Int) (fun n_40 x_38 x_39 => ((l15, Df rr15 .ready none) :: ((rD15, Obj.deferred (some [])) :: ((r14, oc [(Value.pointer (some ⟨r2, 0, none⟩))] 129) :: ((r13, oc [(vi x_39)] 3) :: ((r12, Obj.map x_33e x_33k) :: ((r3, oc [(Value.func (.func 89) [].toArray [].toArray), (Value.func (.func 90) [].toArray [].toArray), (Value.func (.func 91) [].toArray [].toArray)] 138) :: ((r2, oc [(vs s_gens_a s.gens.length s_gens_c), (vs s_used_a s.used.length s_used_c), (vs s_free_a s.free.length s_free_c)] 131) :: ((r1, oc [(vs s_gens_a s.gens.length s_gens_c), (vs s_used_a s.used.length s_used_c), (vs s_free_a s.free.length s_free_c)] 25) :: []))))))))) (fun n_40 x_38 x_39 => [(0, (Value.func (.yield l15) [].toArray [].toArray)), (1, (Value.pointer (some ⟨r14, 0, none⟩))), (9, (vs s_used_a s.used.length s_used_c)), (10, (vi ((s.used.length : Nat) : Int))), (11, (vi ((x_38 : Nat) : Int)))]) (fun n_40 x_38 x_39 => s.used.length - x_38 < n_40 ∧ Is (Gn s x_1 x_32 x_33 (s.used.length + 1) 0 ((s.gens.length : Nat) : Int)) (Gn s x_1 x_32 x_33 n_40 x_38 x_39) ∧ x_38 ≤ s.used.length ∧ (0 ≤ x_39 + ((x_38 : Nat) : Int) ∧ x_39 ≤ 1000)) (fun n_40 x_38 x_39 => n_40) (s.used.length + 1) 0 ((s.gens.length : Nat) : Int) ?_ se (List.Perm.refl _) ?_
     ·exact ⟨Nat.lt_succ_self _, Is.refl _, Kh, Kh⟩
     ·rintro (_ | n_40) x_38 x_39 ⟨hm42, hF41, hi43, hi44⟩
      ·omega
      refine Zd ?_
      refine Au rfl (fun hq30 => ?_) (fun hq30 => ?_)
      ·refine Bq ?_
       refine Ea ?_
       refine Zf ?_
       refine Af (Cb (n := s.used.length) runUnderlying23 sizeOf4 x_38 kY (gD z3) Jv) (k := ?_)
       refine Af (Bz isAgg4 x_38 0 kY (gD z3)) (k := ?_)
       refine Sb ?_
       refine Xh ?_
       refine Di 17 rfl (fun hq31 => ?_) (fun hq31 => ?_)
       rotate_left
       ·refine Ae 13 rfl ?_
        refine Qh ?_
        refine Xk ?_
        exact Nx n_40 (x_38 + 1) x_39 ⟨by omega, ((hF41.pos hq30).f hq31), oI, oI⟩ (Nat.lt_succ_self _) se (List.Perm.refl _)
       refine P7 ?_
       refine fN ?_
       refine xX ?_
       refine Hf ?_
       refine Bb (Cb (n := s.gens.length) runUnderlying22 sizeOf3 x_38 gS (gD z3) Jv) (k := ?_)
       refine Bb (Bz isAgg3 x_38 0 gS (gD z3)) (k := ?_)
       refine yL ?_
       refine Ek (vs := [(Value.agg [(vi ((x_38 : Nat) : Int)), (vi (s.gens.getD x_38 default))].toArray)]) hl15 q0 Eo ?_
       refine Bq ?_
       refine Xq q0 ?_
       refine Jx ?_
       refine Cs ?_
       refine O9 ?_
       refine oY ?_
       refine oX ?_
       refine Fv q0 ?_
       refine Bb Lv (k := ?_)
       refine xB ?_
       refine Xk ?_
       exact Nx n_40 (x_38 + 1) (x_39 - 1) ⟨by omega, ((hF41.pos hq30).t hq31), oI, oI⟩ (Nat.lt_succ_self _) se (List.Perm.refl _)
      refine Ca ?_
      refine Pl ?_
      refine Kb (.inr rfl) results126 q0 ?_
      refine fY ?_
      refine O7 ?_
      refine Af (kF runUnderlying142 hx_33) (k := ?_)
      refine Zg ?_
      refine Z6 ?_
      refine Xv [rD15] (qa q0) results91 z1 ?_
      refine Ze ?_
      refine Au rfl (fun hq32 => ?_) (fun hq32 => ?_)
      ·refine Bg ?_
       refine Xj ?_
       refine K0 ?_
       refine Ab results52 z1 (fun w1 hw1 => ?_)
       exact ⟨(rq (((((((hF.pos hq1).pos hq2).neg hq3).ok1 (hF3.neg hq4)).ok2 (hF35.neg hq25)).rn2 (hF41.neg hq30)).pos hq32)), hw1.ext_out⟩
      refine Xi ?_
      refine La ?_
      refine K0 ?_
      refine Ab results52 z1 (fun w1 hw1 => ?_)
      exact ⟨(rq (((((((hF.pos hq1).pos hq2).neg hq3).ok1 (hF3.neg hq4)).ok2 (hF35.neg hq25)).rn2 (hF41.neg hq30)).neg hq32)), hw1.ext_out⟩
    refine xC ?_
    refine Af (Cb (n := s.free.length) runUnderlying22 sizeOf3 x_32 wZ (gD z3) Jv) (k := ?_)
    refine Af (Bz isAgg3 x_32 0 wZ (gD z3)) (k := ?_)
    refine Xc ?_
    refine Rx ?_
    refine Ao 20 rfl (fun hq26 => ?_) (fun hq26 => ?_)
    ·refine Ae 8 rfl ?_
     refine Pj ?_
     refine Ae 8 rfl ?_
     refine Uu ?_
     refine jK ?_
     refine Ab results52 z1 (fun w1 hw1 => ?_)
     exact ⟨(rq (((((hF.pos hq1).pos hq2).neg hq3).ok1 (hF3.neg hq4)).er2 ((hF35.pos hq25).pos hq26))), hw1.ext_out⟩
    refine cN ?_
    refine fN ?_
    refine tP ?_
    refine Bb Ki (k := ?_)
    refine Rv ?_
    refine Ao 30 rfl (fun hq27 => ?_) (fun hq27 => ?_)
    ·refine Ae 8 rfl ?_
     refine Uu ?_
     refine jK ?_
     refine Ab results52 z1 (fun w1 hw1 => ?_)
     exact ⟨(rq (((((hF.pos hq1).pos hq2).neg hq3).ok1 (hF3.neg hq4)).er2 (((hF35.pos hq25).neg hq26).pos hq27))), hw1.ext_out⟩
    refine Hf ?_
    refine fN ?_
    refine tH ?_
    refine Hf ?_
    refine Bb (Cb (n := s.used.length) runUnderlying23 sizeOf4 ((s.free.getD x_32 default).toNat) kY (gD z3) Jv) (k := ?_)
    refine Bb (Bz isAgg4 ((s.free.getD x_32 default).toNat) 0 kY (gD z3)) (k := ?_)
    refine Rv ?_
    refine Di 40 rfl (fun hq28 => ?_) (fun hq28 => ?_)
    ·refine Ae 3 rfl ?_
     refine jK ?_
     refine Ab results52 z1 (fun w1 hw1 => ?_)
     exact ⟨(rq (((((hF.pos hq1).pos hq2).neg hq3).ok1 (hF3.neg hq4)).er2 ((((hF35.pos hq25).neg hq26).neg hq27).t hq28))), hw1.ext_out⟩
    refine cN ?_
    refine Bb (Xy (xs := x_33) (s.free.getD x_32 default) Fs runUnderlying142 runUnderlying3 zeroValue4 hx_33) (k := ?_)
    refine Qh ?_
    refine Au rfl (fun hq29 => ?_) (fun hq29 => ?_)
    rotate_left
    ·refine Bq ?_
     refine Ea ?_
     refine lN ?_
     refine bZ (xs := x_33) (s.free.getD x_32 default) Fs runUnderlying142 runUnderlying3 hx_33 Ey q0 (k := fun em9 km9 hms9 => ?_)
     refine Eh ?_
     refine jC ?_
     exact bU n_34 (x_32 + 1) (x_33 ++ [(s.free.getD x_32 default)]) em9 km9 ⟨by omega, (((((hF35.pos hq25).neg hq26).neg hq27).f hq28).neg hq29), hms9, z2⟩ (Nat.lt_succ_self _) se (List.Perm.refl _)
    refine Z2 ?_
    refine Pi ?_
    refine O4 ?_
    refine Ab results52 z1 (fun w1 hw1 => ?_)
    exact ⟨(rq (((((hF.pos hq1).pos hq2).neg hq3).ok1 (hF3.neg hq4)).er2 (((((hF35.pos hq25).neg hq26).neg hq27).f hq28).pos hq29))), hw1.ext_out⟩
  refine fJ ?_
  refine Z4 ?_
  refine Xh ?_
  refine Cg ?_
  refine Af (Cb (n := s.gens.length) runUnderlying22 sizeOf3 x_1 gS (gD z3) Jv) (k := ?_)
  refine Af (Bz isAgg3 x_1 0 gS (gD z3)) (k := ?_)
  refine Fa (args := [_]) (Ad call128) func128 ntmps128 ?_
  refine Ut ?_
  refine Z4 ?_
  refine Rx ?_
  refine Ao 5 rfl (fun hq5 => ?_) (fun hq5 => ?_)
  ·refine Ae 2 rfl ?_
   refine Vv ?_
   refine Cc results128 z1 ?_
   refine Z0 ?_
   refine Ow rfl ?_
   refine Z4 ?_
   refine oN ?_
   refine AF4 ?_
   refine Z6 ?_
   refine Cc results129 z1 ?_
   refine Af oZ (k := ?_)
   refine Z6 ?_
   refine Cc results90 z1 ?_
   refine Ze ?_
   refine Au rfl (fun hq6 => ?_) (fun hq6 => ?_)
   ·refine Bg ?_
    refine Xj ?_
    refine K0 ?_
    refine Ab results52 z1 (fun w1 hw1 => ?_)
    exact ⟨(rq (((((hF.pos hq1).pos hq2).neg hq3).er1 ((hF3.pos hq4).pos hq5)).pos hq6)), hw1.ext_out⟩
   refine fS ?_
   refine AE5 ?_
   refine AF1 ?_
   refine cR ?_
   refine Ah Ag hO (k := fun r4 hr4 => ?_)
   refine Xc ?_
   refine fG ?_
   refine lO ?_
   refine Lq ?_
   refine bT (σ1 := Nat) (σ2 := Nat) (σ3 := List Int) (σ4 := Array MapEntry) (σ5 := Nat) (fun n_8 x_6 x_7 x_7e x_7k => ((r4, Obj.map x_7e x_7k) :: ((r3, oc [(Value.func (.func 89) [].toArray [].toArray), (Value.func (.func 90) [].toArray [].toArray), (Value.func (.func 91) [].toArray [].toArray)] 138) :: ((r2, oc [(vs s_gens_a s.gens.length s_gens_c), (vs s_used_a s.used.length s_used_c), (vs s_free_a s.free.length s_free_c)] 131) :: ((r1, oc [(vs s_gens_a s.gens.length s_gens_c), (vs s_used_a s.used.length s_used_c), (vs s_free_a s.free.length s_free_c)] 25) :: []))))) (fun n_8 x_6 x_7 x_7e x_7k => [(0, (Value.pointer (some ⟨r2, 0, none⟩))), (2, (Value.bool false)), (3, (Value.map (some r4))), (12, (vs s_free_a s.free.length s_free_c)), (13, (vi ((s.free.length : Nat) : Int))), (14, (vi ((x_6 : Nat) : Int)))]) (fun n_8 x_6 x_7 x_7e x_7k => s.free.length - x_6 < n_8 ∧ Is (Ua s x_1 (s.free.length + 1) 0 ([] : List Int)) (Ua s x_1 n_8 x_6 x_7) ∧ Na (fun x : Int => vi x) x_7e x_7 ∧ x_6 ≤ s.free.length) (fun n_8 x_6 x_7 x_7e x_7k => n_8) (s.free.length + 1) 0 ([] : List Int) (#[]) 0 ?_ se (List.Perm.refl _) ?_
   ·exact ⟨Nat.lt_succ_self _, Is.refl _, Na.nil, Kh⟩
   ·rintro (_ | n_8) x_6 x_7 x_7e x_7k ⟨hm10, hF9, hx_7, hi11⟩
    ·omega
    refine Zd ?_
    refine Au rfl (fun hq7 => ?_) (fun hq7 => ?_)
    rotate_left
    ·refine Ca ?_
     refine lR ?_
     refine fG ?_
     refine yG ?_
     refine Ah Ag (Dn (l := [_]) zeroValue3) (k := fun r5 hr5 => ?_)
     refine O8 ?_
     refine Z4 ?_
     refine N4 ?_
     refine Ah Ag (Hi (l := [_])) (k := fun r6 hr6 => ?_)
     refine fW ?_
     refine P0 ?_
     refine Ij Ag rfl call126 func126 ntmps126 (fun l7 rD7 rr7 hl7 => ?_)
     refine P8 ?_
     refine fG ?_
     refine fM ?_
     refine yF ?_
     refine bS (σ1 := Nat) (σ2 := Nat) (σ3 := Int) (fun n_14 x_12 x_13 => ((l7, Df rr7 .ready none) :: ((rD7, Obj.deferred (some [])) :: ((r6, oc [(Value.pointer (some ⟨r2, 0, none⟩))] 129) :: ((r5, oc [(vi x_13)] 3) :: ((r4, Obj.map x_7e x_7k) :: ((r3, oc [(Value.func (.func 89) [].toArray [].toArray), (Value.func (.func 90) [].toArray [].toArray), (Value.func (.func 91) [].toArray [].toArray)] 138) :: ((r2, oc [(vs s_gens_a s.gens.length s_gens_c), (vs s_used_a s.used.length s_used_c), (vs s_free_a s.free.length s_free_c)] 131) :: ((r1, oc [(vs s_gens_a s.gens.length s_gens_c), (vs s_used_a s.used.length s_used_c), (vs s_free_a s.free.length s_free_c)] 25) :: []))))))))) (fun n_14 x_12 x_13 => [(0, (Value.func (.yield l7) [].toArray [].toArray)), (1, (Value.pointer (some ⟨r6, 0, none⟩))), (9, (vs s_used_a s.used.length s_used_c)), (10, (vi ((s.used.length : Nat) : Int))), (11, (vi ((x_12 : Nat) : Int)))]) (fun n_14 x_12 x_13 => s.used.length - x_12 < n_14 ∧ Is (Qa s x_1 x_6 x_7 (s.used.length + 1) 0 ((s.gens.length : Nat) : Int)) (Qa s x_1 x_6 x_7 n_14 x_12 x_13) ∧ x_12 ≤ s.used.length ∧ (0 ≤ x_13 + ((x_12 : Nat) : Int) ∧ x_13 ≤ 1000)) (fun n_14 x_12 x_13 => n_14) (s.used.length + 1) 0 ((s.gens.length : Nat) : Int) ?_ se (List.Perm.refl _) ?_
     ·exact ⟨Nat.lt_succ_self _, Is.refl _, Kh, Kh⟩
     ·rintro (_ | n_14) x_12 x_13 ⟨hm16, hF15, hi17, hi18⟩
      ·omega
      refine Zd ?_
      refine Au rfl (fun hq12 => ?_) (fun hq12 => ?_)
      ·refine Bq ?_
       refine Ea ?_
       refine Zf ?_
       refine Af (Cb (n := s.used.length) runUnderlying23 sizeOf4 x_12 kY (gD z3) Jv) (k := ?_)
       refine Af (Bz isAgg4 x_12 0 kY (gD z3)) (k := ?_)
       refine Sb ?_
       refine Xh ?_
       refine Di 17 rfl (fun hq13 => ?_) (fun hq13 => ?_)
       rotate_left
       ·refine Ae 13 rfl ?_
        refine Qh ?_
        refine Xk ?_
        exact Nx n_14 (x_12 + 1) x_13 ⟨by omega, ((hF15.pos hq12).f hq13), oI, oI⟩ (Nat.lt_succ_self _) se (List.Perm.refl _)
       refine P7 ?_
       refine fN ?_
       refine xX ?_
       refine Hf ?_
       refine Bb (Cb (n := s.gens.length) runUnderlying22 sizeOf3 x_12 gS (gD z3) Jv) (k := ?_)
       refine Bb (Bz isAgg3 x_12 0 gS (gD z3)) (k := ?_)
       refine yL ?_
       refine Ek (vs := [(Value.agg [(vi ((x_12 : Nat) : Int)), (vi (s.gens.getD x_12 default))].toArray)]) hl7 q0 Eo ?_
       refine Bq ?_
       refine Xq q0 ?_
       refine Jx ?_
       refine Cs ?_
       refine O9 ?_
       refine oY ?_
       refine oX ?_
       refine Fv q0 ?_
       refine Bb Lv (k := ?_)
       refine xB ?_
       refine Xk ?_
       exact Nx n_14 (x_12 + 1) (x_13 - 1) ⟨by omega, ((hF15.pos hq12).t hq13), oI, oI⟩ (Nat.lt_succ_self _) se (List.Perm.refl _)
      refine Ca ?_
      refine Pl ?_
      refine Kb (.inr rfl) results126 q0 ?_
      refine fY ?_
      refine O7 ?_
      refine Af (kF runUnderlying142 hx_7) (k := ?_)
      refine Zg ?_
      refine Z6 ?_
      refine Xv [rD7] (qa q0) results91 z1 ?_
      refine Ze ?_
      refine Au rfl (fun hq14 => ?_) (fun hq14 => ?_)
      ·refine Bg ?_
       refine Xj ?_
       refine K0 ?_
       refine Ab results52 z1 (fun w1 hw1 => ?_)
       exact ⟨(rq ((((((((hF.pos hq1).pos hq2).neg hq3).er1 ((hF3.pos hq4).pos hq5)).neg hq6).ok2 (hF9.neg hq7)).rn2 (hF15.neg hq12)).pos hq14)), hw1.ext_out⟩
      refine Xi ?_
      refine La ?_
      refine K0 ?_
      refine Ab results52 z1 (fun w1 hw1 => ?_)
      exact ⟨(rq ((((((((hF.pos hq1).pos hq2).neg hq3).er1 ((hF3.pos hq4).pos hq5)).neg hq6).ok2 (hF9.neg hq7)).rn2 (hF15.neg hq12)).neg hq14)), hw1.ext_out⟩
    refine xC ?_
    refine Af (Cb (n := s.free.length) runUnderlying22 sizeOf3 x_6 wZ (gD z3) Jv) (k := ?_)
    refine Af (Bz isAgg3 x_6 0 wZ (gD z3)) (k := ?_)
    refine Xc ?_
    refine Rx ?_
    refine Ao 20 rfl (fun hq8 => ?_) (fun hq8 => ?_)
    ·refine Ae 8 rfl ?_
     refine Pj ?_
     refine Ae 8 rfl ?_
     refine Uu ?_
     refine jK ?_
     refine Ab results52 z1 (fun w1 hw1 => ?_)
     exact ⟨(rq ((((((hF.pos hq1).pos hq2).neg hq3).er1 ((hF3.pos hq4).pos hq5)).neg hq6).er2 ((hF9.pos hq7).pos hq8))), hw1.ext_out⟩
    refine cN ?_
    refine fN ?_
    refine tP ?_
    refine Bb Ki (k := ?_)
    refine Rv ?_
    refine Ao 30 rfl (fun hq9 => ?_) (fun hq9 => ?_)
    ·refine Ae 8 rfl ?_
     refine Uu ?_
     refine jK ?_
     refine Ab results52 z1 (fun w1 hw1 => ?_)
     exact ⟨(rq ((((((hF.pos hq1).pos hq2).neg hq3).er1 ((hF3.pos hq4).pos hq5)).neg hq6).er2 (((hF9.pos hq7).neg hq8).pos hq9))), hw1.ext_out⟩
    refine Hf ?_
    refine fN ?_
    refine tH ?_
    refine Hf ?_
    refine Bb (Cb (n := s.used.length) runUnderlying23 sizeOf4 ((s.free.getD x_6 default).toNat) kY (gD z3) Jv) (k := ?_)
    refine Bb (Bz isAgg4 ((s.free.getD x_6 default).toNat) 0 kY (gD z3)) (k := ?_)
    refine Rv ?_
    refine Di 40 rfl (fun hq10 => ?_) (fun hq10 => ?_)
    ·refine Ae 3 rfl ?_
     refine jK ?_
     refine Ab results52 z1 (fun w1 hw1 => ?_)
     exact ⟨(rq ((((((hF.pos hq1).pos hq2).neg hq3).er1 ((hF3.pos hq4).pos hq5)).neg hq6).er2 ((((hF9.pos hq7).neg hq8).neg hq9).t hq10))), hw1.ext_out⟩
    refine cN ?_
    refine Bb (Xy (xs := x_7) (s.free.getD x_6 default) Fs runUnderlying142 runUnderlying3 zeroValue4 hx_7) (k := ?_)
    refine Qh ?_
    refine Au rfl (fun hq11 => ?_) (fun hq11 => ?_)
    rotate_left
    ·refine Bq ?_
     refine Ea ?_
     refine lN ?_
     refine bZ (xs := x_7) (s.free.getD x_6 default) Fs runUnderlying142 runUnderlying3 hx_7 Ey q0 (k := fun em3 km3 hms3 => ?_)
     refine Eh ?_
     refine jC ?_
     exact bU n_8 (x_6 + 1) (x_7 ++ [(s.free.getD x_6 default)]) em3 km3 ⟨by omega, (((((hF9.pos hq7).neg hq8).neg hq9).f hq10).neg hq11), hms3, z2⟩ (Nat.lt_succ_self _) se (List.Perm.refl _)
    refine Z2 ?_
    refine Pi ?_
    refine O4 ?_
    refine Ab results52 z1 (fun w1 hw1 => ?_)
    exact ⟨(rq ((((((hF.pos hq1).pos hq2).neg hq3).er1 ((hF3.pos hq4).pos hq5)).neg hq6).er2 (((((hF9.pos hq7).neg hq8).neg hq9).f hq10).pos hq11))), hw1.ext_out⟩
  refine lP ?_
  refine Ky ?_
  refine Cc results128 z1 ?_
  refine Z0 ?_
  refine Au rfl (fun hq15 => ?_) (fun hq15 => ?_)
  rotate_left
  ·refine Bq ?_
   refine jC ?_
   exact Dp n_2 (x_1 + 1) ⟨by omega, (((hF3.pos hq4).neg hq5).neg hq15), z2⟩ (Nat.lt_succ_self _) se (List.Perm.refl _)
  refine Z4 ?_
  refine oN ?_
  refine AF4 ?_
  refine Z6 ?_
  refine Cc results129 z1 ?_
  refine Af oZ (k := ?_)
  refine Z6 ?_
  refine Cc results90 z1 ?_
  refine Ze ?_
  refine Au rfl (fun hq16 => ?_) (fun hq16 => ?_)
  ·refine Bg ?_
   refine Xj ?_
   refine K0 ?_
   refine Ab results52 z1 (fun w1 hw1 => ?_)
   exact ⟨(rq (((((hF.pos hq1).pos hq2).neg hq3).er1 (((hF3.pos hq4).neg hq5).pos hq15)).pos hq16)), hw1.ext_out⟩
  refine fS ?_
  refine AE5 ?_
  refine AF1 ?_
  refine cR ?_
  refine Ah Ag hO (k := fun r8 hr8 => ?_)
  refine Xc ?_
  refine fG ?_
  refine lO ?_
  refine Lq ?_
  refine bT (σ1 := Nat) (σ2 := Nat) (σ3 := List Int) (σ4 := Array MapEntry) (σ5 := Nat) (fun n_21 x_19 x_20 x_20e x_20k => ((r8, Obj.map x_20e x_20k) :: ((r3, oc [(Value.func (.func 89) [].toArray [].toArray), (Value.func (.func 90) [].toArray [].toArray), (Value.func (.func 91) [].toArray [].toArray)] 138) :: ((r2, oc [(vs s_gens_a s.gens.length s_gens_c), (vs s_used_a s.used.length s_used_c), (vs s_free_a s.free.length s_free_c)] 131) :: ((r1, oc [(vs s_gens_a s.gens.length s_gens_c), (vs s_used_a s.used.length s_used_c), (vs s_free_a s.free.length s_free_c)] 25) :: []))))) (fun n_21 x_19 x_20 x_20e x_20k => [(0, (Value.pointer (some ⟨r2, 0, none⟩))), (2, (Value.bool false)), (3, (Value.map (some r8))), (12, (vs s_free_a s.free.length s_free_c)), (13, (vi ((s.free.length : Nat) : Int))), (14, (vi ((x_19 : Nat) : Int)))]) (fun n_21 x_19 x_20 x_20e x_20k => s.free.length - x_19 < n_21 ∧ Is (Ub s x_1 (s.free.length + 1) 0 ([] : List Int)) (Ub s x_1 n_21 x_19 x_20) ∧ Na (fun x : Int => vi x) x_20e x_20 ∧ x_19 ≤ s.free.length) (fun n_21 x_19 x_20 x_20e x_20k => n_21) (s.free.length + 1) 0 ([] : List Int) (#[]) 0 ?_ se (List.Perm.refl _) ?_
  ·exact ⟨Nat.lt_succ_self _, Is.refl _, Na.nil, Kh⟩
  ·rintro (_ | n_21) x_19 x_20 x_20e x_20k ⟨hm23, hF22, hx_20, hi24⟩
   ·omega
   refine Zd ?_
   refine Au rfl (fun hq17 => ?_) (fun hq17 => ?_)
   rotate_left
   ·refine Ca ?_
    refine lR ?_
    refine fG ?_
    refine yG ?_
    refine Ah Ag (Dn (l := [_]) zeroValue3) (k := fun r9 hr9 => ?_)
    refine O8 ?_
    refine Z4 ?_
    refine N4 ?_
    refine Ah Ag (Hi (l := [_])) (k := fun r10 hr10 => ?_)
    refine fW ?_
    refine P0 ?_
    refine Ij Ag rfl call126 func126 ntmps126 (fun l11 rD11 rr11 hl11 => ?_)
    refine P8 ?_
    refine fG ?_
    refine fM ?_
    refine yF ?_
    refine bS (σ1 := Nat) (σ2 := Nat) (σ3 := Int) (fun n_27 x_25 x_26 => ((l11, Df rr11 .ready none) :: ((rD11, Obj.deferred (some [])) :: ((r10, oc [(Value.pointer (some ⟨r2, 0, none⟩))] 129) :: ((r9, oc [(vi x_26)] 3) :: ((r8, Obj.map x_20e x_20k) :: ((r3, oc [(Value.func (.func 89) [].toArray [].toArray), (Value.func (.func 90) [].toArray [].toArray), (Value.func (.func 91) [].toArray [].toArray)] 138) :: ((r2, oc [(vs s_gens_a s.gens.length s_gens_c), (vs s_used_a s.used.length s_used_c), (vs s_free_a s.free.length s_free_c)] 131) :: ((r1, oc [(vs s_gens_a s.gens.length s_gens_c), (vs s_used_a s.used.length s_used_c), (vs s_free_a s.free.length s_free_c)] 25) :: []))))))))) (fun n_27 x_25 x_26 => [(0, (Value.func (.yield l11) [].toArray [].toArray)), (1, (Value.pointer (some ⟨r10, 0, none⟩))), (9, (vs s_used_a s.used.length s_used_c)), (10, (vi ((s.used.length : Nat) : Int))), (11, (vi ((x_25 : Nat) : Int)))]) (fun n_27 x_25 x_26 => s.used.length - x_25 < n_27 ∧ Is (Qb s x_1 x_19 x_20 (s.used.length + 1) 0 ((s.gens.length : Nat) : Int)) (Qb s x_1 x_19 x_20 n_27 x_25 x_26) ∧ x_25 ≤ s.used.length ∧ (0 ≤ x_26 + ((x_25 : Nat) : Int) ∧ x_26 ≤ 1000)) (fun n_27 x_25 x_26 => n_27) (s.used.length + 1) 0 ((s.gens.length : Nat) : Int) ?_ se (List.Perm.refl _) ?_
    ·exact ⟨Nat.lt_succ_self _, Is.refl _, Kh, Kh⟩
    ·rintro (_ | n_27) x_25 x_26 ⟨hm29, hF28, hi30, hi31⟩
     ·omega
     refine Zd ?_
     refine Au rfl (fun hq22 => ?_) (fun hq22 => ?_)
     ·refine Bq ?_
      refine Ea ?_
      refine Zf ?_
      refine Af (Cb (n := s.used.length) runUnderlying23 sizeOf4 x_25 kY (gD z3) Jv) (k := ?_)
      refine Af (Bz isAgg4 x_25 0 kY (gD z3)) (k := ?_)
      refine Sb ?_
      refine Xh ?_
      refine Di 17 rfl (fun hq23 => ?_) (fun hq23 => ?_)
      rotate_left
      ·refine Ae 13 rfl ?_
       refine Qh ?_
       refine Xk ?_
       exact Nx n_27 (x_25 + 1) x_26 ⟨by omega, ((hF28.pos hq22).f hq23), oI, oI⟩ (Nat.lt_succ_self _) se (List.Perm.refl _)
      refine P7 ?_
      refine fN ?_
      refine xX ?_
      refine Hf ?_
      refine Bb (Cb (n := s.gens.length) runUnderlying22 sizeOf3 x_25 gS (gD z3) Jv) (k := ?_)
      refine Bb (Bz isAgg3 x_25 0 gS (gD z3)) (k := ?_)
      refine yL ?_
      refine Ek (vs := [(Value.agg [(vi ((x_25 : Nat) : Int)), (vi (s.gens.getD x_25 default))].toArray)]) hl11 q0 Eo ?_
      refine Bq ?_
      refine Xq q0 ?_
      refine Jx ?_
      refine Cs ?_
      refine O9 ?_
      refine oY ?_
      refine oX ?_
      refine Fv q0 ?_
      refine Bb Lv (k := ?_)
      refine xB ?_
      refine Xk ?_
      exact Nx n_27 (x_25 + 1) (x_26 - 1) ⟨by omega, ((hF28.pos hq22).t hq23), oI, oI⟩ (Nat.lt_succ_self _) se (List.Perm.refl _)
     refine Ca ?_
     refine Pl ?_
     refine Kb (.inr rfl) results126 q0 ?_
     refine fY ?_
     refine O7 ?_
     refine Af (kF runUnderlying142 hx_20) (k := ?_)
     refine Zg ?_
     refine Z6 ?_
     refine Xv [rD11] (qa q0) results91 z1 ?_
     refine Ze ?_
     refine Au rfl (fun hq24 => ?_) (fun hq24 => ?_)
     ·refine Bg ?_
      refine Xj ?_
      refine K0 ?_
      refine Ab results52 z1 (fun w1 hw1 => ?_)
      exact ⟨(rq ((((((((hF.pos hq1).pos hq2).neg hq3).er1 (((hF3.pos hq4).neg hq5).pos hq15)).neg hq16).ok2 (hF22.neg hq17)).rn2 (hF28.neg hq22)).pos hq24)), hw1.ext_out⟩
     refine Xi ?_
     refine La ?_
     refine K0 ?_
     refine Ab results52 z1 (fun w1 hw1 => ?_)
     exact ⟨(rq ((((((((hF.pos hq1).pos hq2).neg hq3).er1 (((hF3.pos hq4).neg hq5).pos hq15)).neg hq16).ok2 (hF22.neg hq17)).rn2 (hF28.neg hq22)).neg hq24)), hw1.ext_out⟩
   refine xC ?_
   refine Af (Cb (n := s.free.length) runUnderlying22 sizeOf3 x_19 wZ (gD z3) Jv) (k := ?_)
   refine Af (Bz isAgg3 x_19 0 wZ (gD z3)) (k := ?_)
   refine Xc ?_
   refine Rx ?_
   refine Ao 20 rfl (fun hq18 => ?_) (fun hq18 => ?_)
   ·refine Ae 8 rfl ?_
    refine Pj ?_
    refine Ae 8 rfl ?_
    refine Uu ?_
    refine jK ?_
    refine Ab results52 z1 (fun w1 hw1 => ?_)
    exact ⟨(rq ((((((hF.pos hq1).pos hq2).neg hq3).er1 (((hF3.pos hq4).neg hq5).pos hq15)).neg hq16).er2 ((hF22.pos hq17).pos hq18))), hw1.ext_out⟩
   refine cN ?_
   refine fN ?_
   refine tP ?_
   refine Bb Ki (k := ?_)
   refine Rv ?_
   refine Ao 30 rfl (fun hq19 => ?_) (fun hq19 => ?_)
   ·refine Ae 8 rfl ?_
    refine Uu ?_
    refine jK ?_
    refine Ab results52 z1 (fun w1 hw1 => ?_)
    exact ⟨(rq ((((((hF.pos hq1).pos hq2).neg hq3).er1 (((hF3.pos hq4).neg hq5).pos hq15)).neg hq16).er2 (((hF22.pos hq17).neg hq18).pos hq19))), hw1.ext_out⟩
   refine Hf ?_
   refine fN ?_
   refine tH ?_
   refine Hf ?_
   refine Bb (Cb (n := s.used.length) runUnderlying23 sizeOf4 ((s.free.getD x_19 default).toNat) kY (gD z3) Jv) (k := ?_)
   refine Bb (Bz isAgg4 ((s.free.getD x_19 default).toNat) 0 kY (gD z3)) (k := ?_)
   refine Rv ?_
   refine Di 40 rfl (fun hq20 => ?_) (fun hq20 => ?_)
   ·refine Ae 3 rfl ?_
    refine jK ?_
    refine Ab results52 z1 (fun w1 hw1 => ?_)
    exact ⟨(rq ((((((hF.pos hq1).pos hq2).neg hq3).er1 (((hF3.pos hq4).neg hq5).pos hq15)).neg hq16).er2 ((((hF22.pos hq17).neg hq18).neg hq19).t hq20))), hw1.ext_out⟩
   refine cN ?_
   refine Bb (Xy (xs := x_20) (s.free.getD x_19 default) Fs runUnderlying142 runUnderlying3 zeroValue4 hx_20) (k := ?_)
   refine Qh ?_
   refine Au rfl (fun hq21 => ?_) (fun hq21 => ?_)
   rotate_left
   ·refine Bq ?_
    refine Ea ?_
    refine lN ?_
    refine bZ (xs := x_20) (s.free.getD x_19 default) Fs runUnderlying142 runUnderlying3 hx_20 Ey q0 (k := fun em6 km6 hms6 => ?_)
    refine Eh ?_
    refine jC ?_
    exact bU n_21 (x_19 + 1) (x_20 ++ [(s.free.getD x_19 default)]) em6 km6 ⟨by omega, (((((hF22.pos hq17).neg hq18).neg hq19).f hq20).neg hq21), hms6, z2⟩ (Nat.lt_succ_self _) se (List.Perm.refl _)
   refine Z2 ?_
   refine Pi ?_
   refine O4 ?_
   refine Ab results52 z1 (fun w1 hw1 => ?_)
   exact ⟨(rq ((((((hF.pos hq1).pos hq2).neg hq3).er1 (((hF3.pos hq4).neg hq5).pos hq15)).neg hq16).er2 (((((hF22.pos hq17).neg hq18).neg hq19).f hq20).pos hq21))), hw1.ext_out⟩

theorem rZ (w : World) {s_gens_a : Option Addr} {s_gens_c : Nat} {s_used_a : Option Addr} {s_used_c : Nat} {s_free_a : Option Addr} {s_free_c : Nat} {s : Ax} (h_s_gens : Sl w eI 1 s_gens_a s.gens) (n_s_gens : s.gens.length ≤ 1000) (h_s_used : Sl w eB 1 s_used_a s.used) (n_s_used : s.used.length ≤ 1000) (h_s_free : Sl w eI 1 s_free_a s.free) (n_s_free : s.free.length ≤ 1000) : Calls Tryz.prog 48 (List.toArray [(Value.agg [(vs s_gens_a s.gens.length s_gens_c), (vs s_used_a s.used.length s_used_c), (vs s_free_a s.free.length s_free_c)].toArray)]) w fun e w2 => ∃ a1 : Option Addr, ∃ c1 : Nat, ∃ B : Aj, e = .returned (vs a1 ((Dx s).length) c1) ∧ Dh w w2 B ∧ Dw B Yh 2 a1 (Dx s) ∧ (Dx s).length ≤ 1000 := by
 have hF := Is.refl (Dx s)
 refine Wf func48 ntmps48 (h := ?_)
 refine Z2 ?_
 refine Ah Ag Jp (k := fun r1 hr1 => ?_)
 refine cV ?_
 refine AB9 ?_
 refine Rj ?_
 refine Ct rfl (fun hq1 => ?_) (fun hq1 => ?_)
 ·refine Bg ?_
  refine Kz ?_
  refine Du [] (List.Perm.refl _) results48 z1 (fun w1 hw1 => ?_)
  exact ⟨none, 0, [], (rq (hF.t hq1)), (hw1.fresh_out.sub Nr), (rn (hF.t hq1)), (rl (hF.t hq1))⟩
 have hfhq1 := Sx tC
 refine Rr ?_
 refine Ah Ag (Dn (l := [_]) zeroValue90) (k := fun r2 hr2 => ?_)
 refine Uw ?_
 refine bI ?_
 refine Af (Ef (cs := [_, _, _]) zeroValue131 pT) (k := ?_)
 refine Ah Ag Jp (k := fun r3 hr3 => ?_)
 refine Af dD (k := ?_)
 refine Xc ?_
 refine N4 ?_
 refine Ah Ag (Hi (l := [_])) (k := fun r4 hr4 => ?_)
 refine fW ?_
 refine P0 ?_
 refine Ij Ag rfl call126 func126 ntmps126 (fun l5 rD5 rr5 hl5 => ?_)
 refine P8 ?_
 refine fG ?_
 refine fM ?_
 refine yF ?_
 refine Ny (σ1 := Nat) (σ2 := Nat) (σ3 := List Ar) (σ4 := Option Addr) (σ5 := Nat) (σ6 := Aj) (fun n_3 x_1 x_2 x_2a x_2c x_2B => (x_2B ++ ((l5, Df rr5 .ready none) :: ((rD5, Obj.deferred (some [])) :: ((r4, oc [(Value.pointer (some ⟨r3, 0, none⟩))] 129) :: ((r3, oc [(vs s_gens_a s.gens.length s_gens_c), (vs s_used_a s.used.length s_used_c), (vs s_free_a s.free.length s_free_c)] 131) :: ((r2, oc [(vs x_2a x_2.length x_2c)] 90) :: ((r1, oc [(vs s_gens_a s.gens.length s_gens_c), (vs s_used_a s.used.length s_used_c), (vs s_free_a s.free.length s_free_c)] 25) :: [])))))))) (fun n_3 x_1 x_2 x_2a x_2c x_2B => [(0, (Value.func (.yield l5) [].toArray [].toArray)), (1, (Value.pointer (some ⟨r4, 0, none⟩))), (9, (vs s_used_a s.used.length s_used_c)), (10, (vi ((s.used.length : Nat) : Int))), (11, (vi ((x_1 : Nat) : Int)))]) (fun n_3 x_1 x_2 x_2a x_2c x_2B => s.used.length - x_1 < n_3 ∧ Is (Hj s (s.used.length + 1) 0 []) (Hj s n_3 x_1 x_2) ∧ Bi Yh 2 42 x_2a x_2c x_2B x_2 ∧ x_1 ≤ s.used.length ∧ x_2.length ≤ x_1) (fun n_3 x_1 x_2 x_2a x_2c x_2B => n_3) (s.used.length + 1) 0 ([]) none 0 ([]) ?_ se (List.Perm.refl _) ?_
 ·exact ⟨Nat.lt_succ_self _, Is.refl _, Bi.nil, Kh, Kh⟩
 ·rintro (_ | n_3) x_1 x_2 x_2a x_2c x_2B ⟨hm5, hF4, hx_2, hi6, hi7⟩
  ·omega
  refine Zd ?_
  refine Au rfl (fun hq2 => ?_) (fun hq2 => ?_)
  rotate_left
  ·refine Ca ?_
   refine Pl ?_
   refine Kb (.inr rfl) results126 (qc q0) ?_
   refine fY ?_
   refine Af (Bv isAgg90) (k := ?_)
   refine Z6 ?_
   refine Du [rD5] (qa (qc q0)) results48 z1 (fun w1 hw1 => ?_)
   exact ⟨x_2a, x_2c, x_2B, (rq ((hF.f hq1).rn2 (hF4.neg hq2))), (Ba (L := x_2B) (hw1.perm (qb q0)) rfl.symm), (by rw [((hF.f hq1).rn2 (hF4.neg hq2)).eq]; exact (hx_2.slb Iz)), (rl ((hF.f hq1).rn2 (hF4.neg hq2)))⟩
  refine fJ ?_
  refine Z4 ?_
  refine Af (Cb (n := s.used.length) runUnderlying23 sizeOf4 x_1 kY (gD z3) Jv) (k := ?_)
  refine Af (Bz isAgg4 x_1 0 kY (gD z3)) (k := ?_)
  refine Sb ?_
  refine Xh ?_
  refine Di 17 rfl (fun hq3 => ?_) (fun hq3 => ?_)
  rotate_left
  ·refine Ae 13 rfl ?_
   refine Qh ?_
   refine Xk ?_
   exact Kt n_3 (x_1 + 1) x_2 x_2a x_2c x_2B ⟨by omega, ((hF4.pos hq2).f hq3), hx_2, oI, oI⟩ (Nat.lt_succ_self _) se (List.Perm.refl _)
  refine P7 ?_
  refine fN ?_
  refine xX ?_
  refine Hf ?_
  refine Bb (Cb (n := s.gens.length) runUnderlying22 sizeOf3 x_1 gS (gD z3) Jv) (k := ?_)
  refine Bb (Bz isAgg3 x_1 0 gS (gD z3)) (k := ?_)
  refine yL ?_
  refine Ek (vs := [(Value.agg [(vi ((x_1 : Nat) : Int)), (vi (s.gens.getD x_1 default))].toArray)]) hl5 (qc q0) Eo ?_
  refine Cs ?_
  refine Ah Ag (Dn (l := [_, _]) zeroValue42) (k := fun r6 hr6 => ?_)
  refine Gw (Bt (l' := [_, _]) sizeOf42) (k := ?_)
  refine Eh ?_
  refine AD0 ?_
  refine Af (Bv isAgg90) (k := ?_)
  refine uB ?_
  refine Ah Ag (Eb (l := [_, _]) runUnderlying90 sizeOf42 zeroValue42) (k := fun r7 hr7 => ?_)
  refine Az (x_2 ++ ([(Ar.mk ((x_1 : Nat) : Int) (s.gens.getD x_1 default))] : List Ar)) rfl AA4 underlying90 Iz hx_2 (qb (qb (qb q0))) (Bp.lit (xs := ([(Ar.mk ((x_1 : Nat) : Int) (s.gens.getD x_1 default))] : List Ar)) Iz) ⟨by omega, by omega⟩ (n := x_2.length) (m := 1) (k := fun ax1 cx1 Bx1 hox1 => ?_)
  have hal1 : (x_2 ++ ([(Ar.mk ((x_1 : Nat) : Int) (s.gens.getD x_1 default))] : List Ar)).length = x_2.length + 1 := by first | rfl | exact List.length_append | simp
  refine Gw (Bt (l' := [_]) sizeOf90) (k := ?_)
  refine Eh ?_
  refine AM8 ?_
  refine Xk ?_
  refine Ci _ (((((((qa (qc (qa (qa (qa (qa (qa (qa q0)))))))).trans (qa (qa (qc (qa (qa (qa (qa (qa q0))))))))).trans (qa (qa (qa (qc (qa (qa (qa (qa q0))))))))).trans (qa (qa (qa (qa (qc (qa (qa (qa q0))))))))).trans (qa (qa (qa (qa (qa (qc (qa (qa q0))))))))).trans (qa (qa (qa (qa (qa q0)))))).trans (qb (qb (qb (qb (qb (qb q0))))))) ?_
  refine Cj _ (List.Sublist.append Ou (List.Sublist.cons_cons _ (List.Sublist.cons_cons _ (List.Sublist.cons_cons _ (List.Sublist.cons_cons _ oJ))))) ?_
  exact Kt n_3 (x_1 + 1) (x_2 ++ ([(Ar.mk ((x_1 : Nat) : Int) (s.gens.getD x_1 default))] : List Ar)) ax1 cx1 Bx1 ⟨by omega, ((hF4.pos hq2).t hq3), hox1, oI, oI⟩ (Nat.lt_succ_self _) se (List.Perm.refl _)

theorem vB (w : World) {s_gens_a : Option Addr} {s_gens_c : Nat} {s_used_a : Option Addr} {s_used_c : Nat} {s_free_a : Option Addr} {s_free_c : Nat} {s : Ax} {h : Ar} (h_s_gens : Sl w eI 1 s_gens_a s.gens) (n_s_gens : s.gens.length ≤ 1000) (h_s_used : Sl w eB 1 s_used_a s.used) (n_s_used : s.used.length ≤ 1000) (h_s_free : Sl w eI 1 s_free_a s.free) (n_s_free : s.free.length ≤ 1000) : Hn Tryz.prog 21 [(Value.agg [(vs s_gens_a s.gens.length s_gens_c), (vs s_used_a s.used.length s_used_c), (vs s_free_a s.free.length s_free_c)].toArray), (Value.agg [(vi h.slot), (vi h.gen)].toArray)] w (Value.bool (Ss s h)) := by
 have hF := Is.refl (Ss s h)
 refine enter func21 ntmps21 (h := ?_)
 refine Z2 ?_
 refine Ah Ag Jp (k := fun r1 hr1 => ?_)
 refine Ah Ag tB (k := fun r2 hr2 => ?_)
 refine cV ?_
 refine bI ?_
 refine Gy (Ad call48) (fun w1 hw1 => rZ w1 (s := s) (h_s_gens := (Bp.of_base h_s_gens) w1 hw1) (n_s_gens := z6) (h_s_used := (Bp.of_base h_s_used) w1 hw1) (n_s_used := z6) (h_s_free := (Bp.of_base h_s_free) w1 hw1) (n_s_free := z6)) (k := ?_)
 rintro w1_1 e1_1 w2_1 hw1_1 ⟨a1_1, c1_1, B_1, he_1, hf_1, hs1_1, hl1_1⟩
 refine ⟨_, _, he_1, hw1_1.fresh hf_1, ?_⟩
 refine Af (Ei runUnderlying90) (k := ?_)
 refine Lq ?_
 refine Dr (σ1 := Nat) (σ2 := Nat) (fun n_2 x_1 => (B_1 ++ ((r2, oc [(vi h.slot), (vi h.gen)] 42) :: ((r1, oc [(vs s_gens_a s.gens.length s_gens_c), (vs s_used_a s.used.length s_used_c), (vs s_free_a s.free.length s_free_c)] 25) :: [])))) (fun n_2 x_1 => [(3, (Value.pointer (some ⟨r2, 0, none⟩))), (4, (Value.bool false)), (8, (vs a1_1 ((Dx s).length) c1_1)), (9, (vi ((((Dx s).length) : Nat) : Int))), (10, (vi ((x_1 : Nat) : Int)))]) (fun n_2 x_1 => ((Dx s).length) - x_1 < n_2 ∧ Is (Hd s h (((Dx s).length) + 1) 0) (Hd s h n_2 x_1)) (fun n_2 x_1 => n_2) (((Dx s).length) + 1) 0 ?_ se (List.Perm.refl _) ?_
 ·exact ⟨Nat.lt_succ_self _, Is.refl _⟩
 ·rintro (_ | n_2) x_1 ⟨hm4, hF3⟩
  ·omega
  refine Zd ?_
  refine Au rfl (fun hq1 => ?_) (fun hq1 => ?_)
  rotate_left
  ·refine Ca ?_
   refine La ?_
   refine Ab results21 z1 (fun w1 hw1 => ?_)
   exact ⟨(rq (hF.ok1 (hF3.neg hq1))), hw1.ext_out⟩
  refine xC ?_
  refine Af (Cb (n := (Dx s).length) runUnderlying90 sizeOf42 x_1 (Dw.slj hs1_1) (gD z3) Jv) (k := ?_)
  refine Af (Cn isAgg42 sizeOf42 x_1 (Dw.slj hs1_1) (gD z3)) (k := ?_)
  refine Ah Ag (Dn (l := [_, _]) zeroValue42) (k := fun r3 hr3 => ?_)
  refine Gw (Bt (l' := [_, _]) sizeOf42) (k := ?_)
  refine Uw ?_
  refine uB ?_
  refine uB ?_
  refine Af (mH (D6 _ _ _ _ _ _)) (k := ?_)
  refine Z0 ?_
  refine Au rfl (fun hq2 => ?_) (fun hq2 => ?_)
  rotate_left
  ·refine Bq ?_
   refine jC ?_
   refine Ci _ (((qa (qc (qa q0))).trans (qa (qa (qc q0)))).trans (qb (qb (qb q0)))) ?_
   refine Cj _ (List.Sublist.append Ou oJ) ?_
   exact Dp n_2 (x_1 + 1) ⟨by omega, ((hF3.pos hq1).neg hq2)⟩ (Nat.lt_succ_self _) se (List.Perm.refl _)
  refine Sa ?_
  refine Ab results21 z1 (fun w1 hw1 => ?_)
  exact ⟨(rq (hF.er1 ((hF3.pos hq1).pos hq2))), hw1.ext_out⟩

theorem D8 (w : World) {s_gens_a : Option Addr} {s_gens_c : Nat} {s_used_a : Option Addr} {s_used_c : Nat} {s_free_a : Option Addr} {s_free_c : Nat} {s : Ax} (h_s_gens : Sl w eI 1 s_gens_a s.gens) (n_s_gens : s.gens.length ≤ 1000) (h_s_used : Sl w eB 1 s_used_a s.used) (n_s_used : s.used.length ≤ 1000) (h_s_free : Sl w eI 1 s_free_a s.free) (n_s_free : s.free.length ≤ 1000) : Calls Tryz.prog 110 (List.toArray [(Value.agg [(vs s_gens_a s.gens.length s_gens_c), (vs s_used_a s.used.length s_used_c), (vs s_free_a s.free.length s_free_c)].toArray)]) w fun e w2 => ∃ a1 : Option Addr, ∃ c1 : Nat, ∃ a2 : Option Addr, ∃ c2 : Nat, ∃ a3 : Option Addr, ∃ c3 : Nat, ∃ B : Aj, e = .returned (Value.tuple [(Value.agg [(vs a1 ((Ch s).1.gens.length) c1), (vs a2 ((Ch s).1.used.length) c2), (vs a3 ((Ch s).1.free.length) c3)].toArray), (Value.agg [(vi ((Ch s).2.1.slot)), (vi ((Ch s).2.1.gen))].toArray), (vi ((Ch s).2.2))].toArray) ∧ Dh w w2 B ∧ Dw B eI 1 a1 (Ch s).1.gens ∧ Dw B eB 1 a2 (Ch s).1.used ∧ Dw B eI 1 a3 (Ch s).1.free ∧ (Ch s).1.gens.length ≤ 1000 ∧ (Ch s).1.used.length ≤ 1000 ∧ (Ch s).1.free.length ≤ 1000 := by
 have hF := Is.refl (Ch s)
 refine enter func110 ntmps110 (h := ?_)
 refine Z2 ?_
 refine Ah Ag Jp (k := fun r1 hr1 => ?_)
 refine Ah Ag jB (k := fun r2 hr2 => ?_)
 refine Ah Ag (Dn (l := [_, _]) zeroValue42) (k := fun r3 hr3 => ?_)
 refine cV ?_
 refine AB9 ?_
 refine Rj ?_
 refine Ct rfl (fun hq1 => ?_) (fun hq1 => ?_)
 ·refine Bg ?_
  refine Cs ?_
  refine oO ?_
  refine lD ?_
  refine Pi ?_
  refine Ab results110 (Fb.agg isAgg25 sizeOf25 rfl me rfl (Fb.agg isAgg42 sizeOf42 rfl me rfl z1)) (fun w1 hw1 => ?_)
  exact ⟨none, 0, none, 0, none, 0, [], (rq (hF.t hq1)), (hw1.fresh_out.sub Nr), (rn (hF.t hq1)), (rn (hF.t hq1)), (rn (hF.t hq1)), (rl (hF.t hq1)), (rl (hF.t hq1)), (rl (hF.t hq1))⟩
 have hfhq1 := Sx tC
 refine Rr ?_
 refine bI ?_
 refine Fa (args := [_]) (Ad call140) func140 ntmps140 ?_
 refine Z2 ?_
 refine Ah Ag Jp (k := fun r4 hr4 => ?_)
 refine Rw ?_
 refine Xo (V := []) Da 14 z4 ?_
 refine Ez 0 rfl z4 (Ai Ue) (k := ?_)
 refine Ez 1 rfl z4 oK (k := ?_)
 refine Ez 2 rfl z4 Y1 (k := ?_)
 refine Ez 4 rfl z4 (Ai Qu) (k := ?_)
 refine Ez 5 rfl z4 (Bv isAgg23) (k := ?_)
 refine Ez 7 rfl z4 (Ai Kv) (k := ?_)
 refine Ez 8 rfl z4 oK (k := ?_)
 refine Cr [3, 6] z4 rfl (List.forall_mem_cons.2 ⟨?_, (List.forall_mem_cons.2 ⟨?_, nofun⟩)⟩)
 ·skip
  refine Pz rfl (n := s.gens.length) (x0 := default) Fo underlying22 Bh rfl ⟨by omega, by omega⟩ (k := fun ax81 Bx81 hox81 => ?_)
  refine Cr [6] z4 rfl (List.forall_mem_cons.2 ⟨?_, nofun⟩)
  ·skip
   refine Q1 ?_
   rintro w1_141 e1_141 w2_141 hw1_141 ⟨a1_141, c1_141, B1_141, he_141, hf_141, ho1_141⟩
   refine ⟨_, _, _, he_141, hf_141, rfl, ?_⟩
   refine Cr [9] z4 rfl (List.forall_mem_cons.2 ⟨?_, nofun⟩)
   ·skip
    refine uC ?_
    rintro w1_201 e1_201 w2_201 hw1_201 ⟨a1_201, c1_201, B1_201, he_201, hf_201, ho1_201⟩
    refine ⟨_, _, _, he_201, hf_201, rfl, ?_⟩
    refine tE ?_
    refine Cr [12] z4 rfl (List.forall_mem_cons.2 ⟨?_, nofun⟩)
    ·skip
     refine Lf rfl Ag Jp (k := fun r265 hr265 => ?_)
     refine tV ?_
     refine Me ?_
     refine Z97 ?_
     refine fV ?_
     refine J9 ?_
     refine Tv (n := s.gens.length) Fo underlying22 Bh hox81 q0 gS Hb rfl (kk := fun Bx302 hox302 => ?_)
     refine bC ?_
     refine Pm ?_
     refine tN ?_
     refine Jq ?_
     refine fG ?_
     refine lO ?_
     refine bJ ?_
     refine Rw ?_
     refine Bg ?_
     refine AC6 ?_
     refine tS ?_
     refine Fm 24 rfl (fun hq2 => ?_) (fun hq2 => ?_)
     ·refine Bm 16 rfl ?_
      refine bB ?_
      refine Zc ?_
      refine oO ?_
      refine lD ?_
      refine Pi ?_
      refine Ab results110 (Fb.agg isAgg25 sizeOf25 rfl me rfl (Fb.agg isAgg42 sizeOf42 rfl me rfl z1)) (fun w1 hw1 => ?_)
      exact ⟨none, 0, none, 0, none, 0, [], (rq ((hF.f hq1).pos hq2)), (hw1.fresh_out.sub Nr), (rn ((hF.f hq1).pos hq2)), (rn ((hF.f hq1).pos hq2)), (rn ((hF.f hq1).pos hq2)), (rl ((hF.f hq1).pos hq2)), (rl ((hF.f hq1).pos hq2)), (rl ((hF.f hq1).pos hq2))⟩
     refine Mq ?_
     refine yI ?_
     refine L9 ?_
     refine xP ?_
     refine yJ ?_
     refine AC3 ?_
     refine AC0 ?_
     refine Bl Nv (k := ?_)
     refine Xf ?_
     refine Au rfl (fun hq3 => ?_) (fun hq3 => ?_)
     ·refine Bg ?_
      refine Cs ?_
      refine oO ?_
      refine lD ?_
      refine Pi ?_
      refine Ab results110 (Fb.agg isAgg25 sizeOf25 rfl me rfl (Fb.agg isAgg42 sizeOf42 rfl me rfl z1)) (fun w1 hw1 => ?_)
      exact ⟨none, 0, none, 0, none, 0, [], (rq (((hF.f hq1).neg hq2).pos hq3)), (hw1.fresh_out.sub Nr), (rn (((hF.f hq1).neg hq2).pos hq3)), (rn (((hF.f hq1).neg hq2).pos hq3)), (rn (((hF.f hq1).neg hq2).pos hq3)), (rl (((hF.f hq1).neg hq2).pos hq3)), (rl (((hF.f hq1).neg hq2).pos hq3)), (rl (((hF.f hq1).neg hq2).pos hq3))⟩
     refine aY ?_
     refine Z4 ?_
     refine fG ?_
     refine L1 ?_
     refine Cg ?_
     refine AC4 ?_
     refine Xh ?_
     refine fG ?_
     refine L1 ?_
     refine K9 ?_
     have hl4 : (s.free.take ((((s.free.length : Nat) : Int) - 1).toNat)).length = (((s.free.length : Nat) : Int) - 1).toNat := by rw [List.length_take]; omega
     have hl4c := ho1_201.le'
     refine AC9 ?_
     refine xS ?_
     refine jM ?_
     refine fM ?_
     refine AC7 ?_
     refine Hz ((s.free.getD ((((s.free.length : Nat) : Int) - 1).toNat) default).toNat) true sizeOf4 Gh ho1_141 (qd (qd q0)) K5 (k := fun Bs301 hos301 => ?_)
     refine jM ?_
     refine tW ?_
     refine AC1 ?_
     refine AC8 ?_
     refine Hz ((s.free.getD ((((s.free.length : Nat) : Int) - 1).toNat) default).toNat) ((s.gens.getD ((s.free.getD ((((s.free.length : Nat) : Int) - 1).toNat) default).toNat) default) + 1) sizeOf3 Bh hox302 (qd q0) K5 (k := fun Bs302 hos302 => ?_)
     refine Me ?_
     refine AC2 ?_
     refine tD ?_
     refine Aw z66 (k := ?_)
     refine Xa ?_
     refine fV ?_
     refine Gu ?_
     refine AF3 ?_
     refine AD4 ?_
     refine Ov ?_
     refine cQ ?_
     refine Ab results110 (Fb.agg isAgg25 sizeOf25 rfl me rfl (Fb.agg isAgg42 sizeOf42 rfl me rfl z1)) (fun w1 hw1 => ?_)
     exact ⟨ax81, s.gens.length, a1_141, c1_141, a1_201, ((((s.free.length : Nat) : Int) - 1).toNat), (Bs302 ++ (Bs301 ++ B1_201)), (rq (((hF.f hq1).neg hq2).neg hq3)), (Ba (L := (Bs302 ++ (Bs301 ++ B1_201))) (hw1.perm (((qb (qb (qd (qd q0)))).trans (qd (qb (qb (qd q0))))).trans (qd (qd (qb (qb q0)))))) (nA (nA rfl)).symm), (by rw [(((hF.f hq1).neg hq2).neg hq3).eq]; exact (hos302.slb Bh)), (by rw [(((hF.f hq1).neg hq2).neg hq3).eq]; exact (hos301.slb Gh)), (by rw [(((hF.f hq1).neg hq2).neg hq3).eq]; exact ((ho1_201.take Bh ((((s.free.length : Nat) : Int) - 1).toNat)).slb Bh)), (rl (((hF.f hq1).neg hq2).neg hq3)), (rl (((hF.f hq1).neg hq2).neg hq3)), (rl (((hF.f hq1).neg hq2).neg hq3))⟩
 ·skip
  refine Q1 ?_
  rintro w1_141 e1_141 w2_141 hw1_141 ⟨a1_141, c1_141, B1_141, he_141, hf_141, ho1_141⟩
  refine ⟨_, _, _, he_141, hf_141, rfl, ?_⟩
  refine Cr [3, 9] z4 rfl (List.forall_mem_cons.2 ⟨?_, (List.forall_mem_cons.2 ⟨?_, nofun⟩)⟩)
  ·skip
   refine Pz rfl (n := s.gens.length) (x0 := default) Fo underlying22 Bh rfl ⟨by omega, by omega⟩ (k := fun ax81 Bx81 hox81 => ?_)
   refine Cr [9] z4 rfl (List.forall_mem_cons.2 ⟨?_, nofun⟩)
   ·skip
    refine uC ?_
    rintro w1_201 e1_201 w2_201 hw1_201 ⟨a1_201, c1_201, B1_201, he_201, hf_201, ho1_201⟩
    refine ⟨_, _, _, he_201, hf_201, rfl, ?_⟩
    refine tE ?_
    refine Cr [12] z4 rfl (List.forall_mem_cons.2 ⟨?_, nofun⟩)
    ·skip
     refine Lf rfl Ag Jp (k := fun r265 hr265 => ?_)
     refine tV ?_
     refine Me ?_
     refine Z97 ?_
     refine fV ?_
     refine J9 ?_
     refine Tv (n := s.gens.length) Fo underlying22 Bh hox81 q0 gS Hb rfl (kk := fun Bx302 hox302 => ?_)
     refine bC ?_
     refine Pm ?_
     refine tN ?_
     refine Jq ?_
     refine fG ?_
     refine lO ?_
     refine bJ ?_
     refine Rw ?_
     refine Bg ?_
     refine AC6 ?_
     refine tS ?_
     refine Fm 24 rfl (fun hq5 => ?_) (fun hq5 => ?_)
     ·refine Bm 16 rfl ?_
      refine bB ?_
      refine Zc ?_
      refine oO ?_
      refine lD ?_
      refine Pi ?_
      refine Ab results110 (Fb.agg isAgg25 sizeOf25 rfl me rfl (Fb.agg isAgg42 sizeOf42 rfl me rfl z1)) (fun w1 hw1 => ?_)
      exact ⟨none, 0, none, 0, none, 0, [], (rq ((hF.f hq1).pos hq5)), (hw1.fresh_out.sub Nr), (rn ((hF.f hq1).pos hq5)), (rn ((hF.f hq1).pos hq5)), (rn ((hF.f hq1).pos hq5)), (rl ((hF.f hq1).pos hq5)), (rl ((hF.f hq1).pos hq5)), (rl ((hF.f hq1).pos hq5))⟩
     refine Mq ?_
     refine yI ?_
     refine L9 ?_
     refine xP ?_
     refine yJ ?_
     refine AC3 ?_
     refine AC0 ?_
     refine Bl Nv (k := ?_)
     refine Xf ?_
     refine Au rfl (fun hq6 => ?_) (fun hq6 => ?_)
     ·refine Bg ?_
      refine Cs ?_
      refine oO ?_
      refine lD ?_
      refine Pi ?_
      refine Ab results110 (Fb.agg isAgg25 sizeOf25 rfl me rfl (Fb.agg isAgg42 sizeOf42 rfl me rfl z1)) (fun w1 hw1 => ?_)
      exact ⟨none, 0, none, 0, none, 0, [], (rq (((hF.f hq1).neg hq5).pos hq6)), (hw1.fresh_out.sub Nr), (rn (((hF.f hq1).neg hq5).pos hq6)), (rn (((hF.f hq1).neg hq5).pos hq6)), (rn (((hF.f hq1).neg hq5).pos hq6)), (rl (((hF.f hq1).neg hq5).pos hq6)), (rl (((hF.f hq1).neg hq5).pos hq6)), (rl (((hF.f hq1).neg hq5).pos hq6))⟩
     refine aY ?_
     refine Z4 ?_
     refine fG ?_
     refine L1 ?_
     refine Cg ?_
     refine AC4 ?_
     refine Xh ?_
     refine fG ?_
     refine L1 ?_
     refine K9 ?_
     have hl7 : (s.free.take ((((s.free.length : Nat) : Int) - 1).toNat)).length = (((s.free.length : Nat) : Int) - 1).toNat := by rw [List.length_take]; omega
     have hl7c := ho1_201.le'
     refine AC9 ?_
     refine xS ?_
     refine jM ?_
     refine fM ?_
     refine AC7 ?_
     refine Hz ((s.free.getD ((((s.free.length : Nat) : Int) - 1).toNat) default).toNat) true sizeOf4 Gh ho1_141 (qd (qd q0)) K5 (k := fun Bs301 hos301 => ?_)
     refine jM ?_
     refine tW ?_
     refine AC1 ?_
     refine AC8 ?_
     refine Hz ((s.free.getD ((((s.free.length : Nat) : Int) - 1).toNat) default).toNat) ((s.gens.getD ((s.free.getD ((((s.free.length : Nat) : Int) - 1).toNat) default).toNat) default) + 1) sizeOf3 Bh hox302 (qd q0) K5 (k := fun Bs302 hos302 => ?_)
     refine Me ?_
     refine AC2 ?_
     refine tD ?_
     refine Aw z66 (k := ?_)
     refine Xa ?_
     refine fV ?_
     refine Gu ?_
     refine AF3 ?_
     refine AD4 ?_
     refine Ov ?_
     refine cQ ?_
     refine Ab results110 (Fb.agg isAgg25 sizeOf25 rfl me rfl (Fb.agg isAgg42 sizeOf42 rfl me rfl z1)) (fun w1 hw1 => ?_)
     exact ⟨ax81, s.gens.length, a1_141, c1_141, a1_201, ((((s.free.length : Nat) : Int) - 1).toNat), (Bs302 ++ (Bs301 ++ B1_201)), (rq (((hF.f hq1).neg hq5).neg hq6)), (Ba (L := (Bs302 ++ (Bs301 ++ B1_201))) (hw1.perm (((qb (qb (qd (qd q0)))).trans (qd (qb (qb (qd q0))))).trans (qd (qd (qb (qb q0)))))) (nA (nA rfl)).symm), (by rw [(((hF.f hq1).neg hq5).neg hq6).eq]; exact (hos302.slb Bh)), (by rw [(((hF.f hq1).neg hq5).neg hq6).eq]; exact (hos301.slb Gh)), (by rw [(((hF.f hq1).neg hq5).neg hq6).eq]; exact ((ho1_201.take Bh ((((s.free.length : Nat) : Int) - 1).toNat)).slb Bh)), (rl (((hF.f hq1).neg hq5).neg hq6)), (rl (((hF.f hq1).neg hq5).neg hq6)), (rl (((hF.f hq1).neg hq5).neg hq6))⟩
  ·skip
   refine uC ?_
   rintro w1_201 e1_201 w2_201 hw1_201 ⟨a1_201, c1_201, B1_201, he_201, hf_201, ho1_201⟩
   refine ⟨_, _, _, he_201, hf_201, rfl, ?_⟩
   refine Cr [3] z4 rfl (List.forall_mem_cons.2 ⟨?_, nofun⟩)
   ·skip
    refine Pz rfl (n := s.gens.length) (x0 := default) Fo underlying22 Bh rfl ⟨by omega, by omega⟩ (k := fun ax81 Bx81 hox81 => ?_)
    refine tE ?_
    refine Cr [12] z4 rfl (List.forall_mem_cons.2 ⟨?_, nofun⟩)
    ·skip
     refine Lf rfl Ag Jp (k := fun r265 hr265 => ?_)
     refine tV ?_
     refine Me ?_
     refine Z97 ?_
     refine fV ?_
     refine J9 ?_
     refine Tv (n := s.gens.length) Fo underlying22 Bh hox81 q0 gS Hb rfl (kk := fun Bx302 hox302 => ?_)
     refine bC ?_
     refine Pm ?_
     refine tN ?_
     refine Jq ?_
     refine fG ?_
     refine lO ?_
     refine bJ ?_
     refine Rw ?_
     refine Bg ?_
     refine AC6 ?_
     refine tS ?_
     refine Fm 24 rfl (fun hq8 => ?_) (fun hq8 => ?_)
     ·refine Bm 16 rfl ?_
      refine bB ?_
      refine Zc ?_
      refine oO ?_
      refine lD ?_
      refine Pi ?_
      refine Ab results110 (Fb.agg isAgg25 sizeOf25 rfl me rfl (Fb.agg isAgg42 sizeOf42 rfl me rfl z1)) (fun w1 hw1 => ?_)
      exact ⟨none, 0, none, 0, none, 0, [], (rq ((hF.f hq1).pos hq8)), (hw1.fresh_out.sub Nr), (rn ((hF.f hq1).pos hq8)), (rn ((hF.f hq1).pos hq8)), (rn ((hF.f hq1).pos hq8)), (rl ((hF.f hq1).pos hq8)), (rl ((hF.f hq1).pos hq8)), (rl ((hF.f hq1).pos hq8))⟩
     refine Mq ?_
     refine yI ?_
     refine L9 ?_
     refine xP ?_
     refine yJ ?_
     refine AC3 ?_
     refine AC0 ?_
     refine Bl Nv (k := ?_)
     refine Xf ?_
     refine Au rfl (fun hq9 => ?_) (fun hq9 => ?_)
     ·refine Bg ?_
      refine Cs ?_
      refine oO ?_
      refine lD ?_
      refine Pi ?_
      refine Ab results110 (Fb.agg isAgg25 sizeOf25 rfl me rfl (Fb.agg isAgg42 sizeOf42 rfl me rfl z1)) (fun w1 hw1 => ?_)
      exact ⟨none, 0, none, 0, none, 0, [], (rq (((hF.f hq1).neg hq8).pos hq9)), (hw1.fresh_out.sub Nr), (rn (((hF.f hq1).neg hq8).pos hq9)), (rn (((hF.f hq1).neg hq8).pos hq9)), (rn (((hF.f hq1).neg hq8).pos hq9)), (rl (((hF.f hq1).neg hq8).pos hq9)), (rl (((hF.f hq1).neg hq8).pos hq9)), (rl (((hF.f hq1).neg hq8).pos hq9))⟩
     refine aY ?_
     refine Z4 ?_
     refine fG ?_
     refine L1 ?_
     refine Cg ?_
     refine AC4 ?_
     refine Xh ?_
     refine fG ?_
     refine L1 ?_
     refine K9 ?_
     have hl10 : (s.free.take ((((s.free.length : Nat) : Int) - 1).toNat)).length = (((s.free.length : Nat) : Int) - 1).toNat := by rw [List.length_take]; omega
     have hl10c := ho1_201.le'
     refine AC9 ?_
     refine xS ?_
     refine jM ?_
     refine fM ?_
     refine AC7 ?_
     refine Hz ((s.free.getD ((((s.free.length : Nat) : Int) - 1).toNat) default).toNat) true sizeOf4 Gh ho1_141 (qd (qd q0)) K5 (k := fun Bs301 hos301 => ?_)
     refine jM ?_
     refine tW ?_
     refine AC1 ?_
     refine AC8 ?_
     refine Hz ((s.free.getD ((((s.free.length : Nat) : Int) - 1).toNat) default).toNat) ((s.gens.getD ((s.free.getD ((((s.free.length : Nat) : Int) - 1).toNat) default).toNat) default) + 1) sizeOf3 Bh hox302 (qd q0) K5 (k := fun Bs302 hos302 => ?_)
     refine Me ?_
     refine AC2 ?_
     refine tD ?_
     refine Aw z66 (k := ?_)
     refine Xa ?_
     refine fV ?_
     refine Gu ?_
     refine AF3 ?_
     refine AD4 ?_
     refine Ov ?_
     refine cQ ?_
     refine Ab results110 (Fb.agg isAgg25 sizeOf25 rfl me rfl (Fb.agg isAgg42 sizeOf42 rfl me rfl z1)) (fun w1 hw1 => ?_)
     exact ⟨ax81, s.gens.length, a1_141, c1_141, a1_201, ((((s.free.length : Nat) : Int) - 1).toNat), (Bs302 ++ (Bs301 ++ B1_201)), (rq (((hF.f hq1).neg hq8).neg hq9)), (Ba (L := (Bs302 ++ (Bs301 ++ B1_201))) (hw1.perm (((qb (qb (qd (qd q0)))).trans (qd (qb (qb (qd q0))))).trans (qd (qd (qb (qb q0)))))) (nA (nA rfl)).symm), (by rw [(((hF.f hq1).neg hq8).neg hq9).eq]; exact (hos302.slb Bh)), (by rw [(((hF.f hq1).neg hq8).neg hq9).eq]; exact (hos301.slb Gh)), (by rw [(((hF.f hq1).neg hq8).neg hq9).eq]; exact ((ho1_201.take Bh ((((s.free.length : Nat) : Int) - 1).toNat)).slb Bh)), (rl (((hF.f hq1).neg hq8).neg hq9)), (rl (((hF.f hq1).neg hq8).neg hq9)), (rl (((hF.f hq1).neg hq8).neg hq9))⟩

theorem D9 (w : World) {s_gens_a : Option Addr} {s_gens_c : Nat} {s_used_a : Option Addr} {s_used_c : Nat} {s_free_a : Option Addr} {s_free_c : Nat} {s : Ax} {h : Ar} (h_s_gens : Sl w eI 1 s_gens_a s.gens) (n_s_gens : s.gens.length ≤ 1000) (h_s_used : Sl w eB 1 s_used_a s.used) (n_s_used : s.used.length ≤ 1000) (h_s_free : Sl w eI 1 s_free_a s.free) (n_s_free : s.free.length ≤ 1000) : Calls Tryz.prog 113 (List.toArray [(Value.agg [(vs s_gens_a s.gens.length s_gens_c), (vs s_used_a s.used.length s_used_c), (vs s_free_a s.free.length s_free_c)].toArray), (Value.agg [(vi h.slot), (vi h.gen)].toArray)]) w fun e w2 => ∃ a1 : Option Addr, ∃ c1 : Nat, ∃ a2 : Option Addr, ∃ c2 : Nat, ∃ a3 : Option Addr, ∃ c3 : Nat, ∃ B : Aj, e = .returned (Value.tuple [(Value.agg [(vs a1 ((Ft s h).1.gens.length) c1), (vs a2 ((Ft s h).1.used.length) c2), (vs a3 ((Ft s h).1.free.length) c3)].toArray), (vi ((Ft s h).2))].toArray) ∧ Dh w w2 B ∧ Dw B eI 1 a1 (Ft s h).1.gens ∧ Dw B eB 1 a2 (Ft s h).1.used ∧ Dw B eI 1 a3 (Ft s h).1.free ∧ (Ft s h).1.gens.length ≤ 1000 ∧ (Ft s h).1.used.length ≤ 1000 ∧ (Ft s h).1.free.length ≤ 1000 := by
 have hF := Is.refl (Ft s h)
 refine enter func113 ntmps113 (h := ?_)
 refine Z2 ?_
 refine Ah Ag Jp (k := fun r1 hr1 => ?_)
 refine Ah Ag tB (k := fun r2 hr2 => ?_)
 refine Ah Ag jB (k := fun r3 hr3 => ?_)
 refine Z1 ?_
 refine J7 ?_
 refine Z2 ?_
 refine AB9 ?_
 refine oU ?_
 refine Ct rfl (fun hq1 => ?_) (fun hq1 => ?_)
 ·refine Bg ?_
  refine Cs ?_
  refine tI ?_
  refine Jt ?_
  refine Ab results113 (Fb.agg isAgg25 sizeOf25 rfl me rfl z1) (fun w1 hw1 => ?_)
  exact ⟨none, 0, none, 0, none, 0, [], (rq (hF.t hq1)), (hw1.fresh_out.sub Nr), (rn (hF.t hq1)), (rn (hF.t hq1)), (rn (hF.t hq1)), (rl (hF.t hq1)), (rl (hF.t hq1)), (rl (hF.t hq1))⟩
 have hfhq1 := Sx tC
 refine Z2 ?_
 refine bI ?_
 refine uB ?_
 refine Fu (Ad call21) (fun w1 hw1 => vB w1 (s := s) (h := h) (h_s_gens := (Bp.of_base h_s_gens) w1 hw1) (n_s_gens := z6) (h_s_used := (Bp.of_base h_s_used) w1 hw1) (n_s_used := z6) (h_s_free := (Bp.of_base h_s_free) w1 hw1) (n_s_free := z6)) (k := ?_)
 refine oU ?_
 refine Ct rfl (fun hq2 => ?_) (fun hq2 => ?_)
 ·refine Bg ?_
  refine Cs ?_
  refine tI ?_
  refine Jt ?_
  refine Ab results113 (Fb.agg isAgg25 sizeOf25 rfl me rfl z1) (fun w1 hw1 => ?_)
  exact ⟨none, 0, none, 0, none, 0, [], (rq ((hF.f hq1).t hq2)), (hw1.fresh_out.sub Nr), (rn ((hF.f hq1).t hq2)), (rn ((hF.f hq1).t hq2)), (rn ((hF.f hq1).t hq2)), (rl ((hF.f hq1).t hq2)), (rl ((hF.f hq1).t hq2)), (rl ((hF.f hq1).t hq2))⟩
 have hfhq2 := D5 (by simpa using hq2)
 refine Bq ?_
 refine fY ?_
 refine bI ?_
 refine Fa (args := [_]) (Ad call140) func140 ntmps140 ?_
 refine Z2 ?_
 refine Ah Ag Jp (k := fun r4 hr4 => ?_)
 refine Rw ?_
 refine Xo (V := []) Da 14 z4 ?_
 refine Ez 0 rfl z4 (Ai Ue) (k := ?_)
 refine Ez 1 rfl z4 oK (k := ?_)
 refine Ez 2 rfl z4 Y1 (k := ?_)
 refine Ez 4 rfl z4 (Ai Qu) (k := ?_)
 refine Ez 5 rfl z4 (Bv isAgg23) (k := ?_)
 refine Ez 7 rfl z4 (Ai Kv) (k := ?_)
 refine Ez 8 rfl z4 oK (k := ?_)
 refine Cr [3, 6] z4 rfl (List.forall_mem_cons.2 ⟨?_, (List.forall_mem_cons.2 ⟨?_, nofun⟩)⟩)
 ·skip
  refine Pz rfl (n := s.gens.length) (x0 := default) Fo underlying22 Bh rfl ⟨by omega, by omega⟩ (k := fun ax81 Bx81 hox81 => ?_)
  refine Cr [6] z4 rfl (List.forall_mem_cons.2 ⟨?_, nofun⟩)
  ·skip
   refine Q1 ?_
   rintro w1_141 e1_141 w2_141 hw1_141 ⟨a1_141, c1_141, B1_141, he_141, hf_141, ho1_141⟩
   refine ⟨_, _, _, he_141, hf_141, rfl, ?_⟩
   refine Cr [9] z4 rfl (List.forall_mem_cons.2 ⟨?_, nofun⟩)
   ·skip
    refine uC ?_
    rintro w1_201 e1_201 w2_201 hw1_201 ⟨a1_201, c1_201, B1_201, he_201, hf_201, ho1_201⟩
    refine ⟨_, _, _, he_201, hf_201, rfl, ?_⟩
    refine tE ?_
    refine Cr [12] z4 rfl (List.forall_mem_cons.2 ⟨?_, nofun⟩)
    ·skip
     refine Lf rfl Ag Jp (k := fun r265 hr265 => ?_)
     refine tV ?_
     refine Me ?_
     refine Z97 ?_
     refine fV ?_
     refine J9 ?_
     refine Tv (n := s.gens.length) Fo underlying22 Bh hox81 q0 gS Hb rfl (kk := fun Bx302 hox302 => ?_)
     refine bC ?_
     refine Pm ?_
     refine tN ?_
     refine Rw ?_
     refine AD6 ?_
     refine tD ?_
     refine lM ?_
     refine Aw (Ai Mb) (k := ?_)
     refine AD3 ?_
     refine Gb ?_
     refine Hz h.slot.toNat false sizeOf4 Gh ho1_141 (qd (qd q0)) K5 (k := fun Bs301 hos301 => ?_)
     refine AD1 ?_
     refine Xa ?_
     refine tD ?_
     refine jE ?_
     refine Aw (Ai Mb) (k := ?_)
     refine Sc ?_
     refine Se Ag Zb (k := fun r305 hr305 => ?_)
     refine Tu (s.free ++ ([h.slot] : List Int)) rfl Fo underlying22 Bh ho1_201 q0 (Bp.lit (xs := ([h.slot] : List Int)) Bh) ⟨by omega, by omega⟩ (n := s.free.length) (m := 1) (k := fun ax304 cx304 Bx304 hox304 => ?_)
     have hal304 : (s.free ++ ([h.slot] : List Int)).length = s.free.length + 1 := by first | rfl | exact List.length_append | simp
     refine tD ?_
     refine Aw (Ai Kv) (k := ?_)
     refine bC ?_
     refine Q2 ?_
     refine jM ?_
     refine xQ ?_
     refine Z6 ?_
     refine Ab results113 (Fb.agg isAgg25 sizeOf25 rfl me rfl z1) (fun w1 hw1 => ?_)
     exact ⟨ax81, s.gens.length, a1_141, c1_141, ax304, cx304, (Bx302 ++ (Bs301 ++ Bx304)), (rq ((hF.f hq1).f hq2)), (Ba (L := (Bx302 ++ (Bs301 ++ Bx304))) (hw1.perm ((q0.trans (qd (qb q0))).trans (qd (qd (qb q0))))) (nA (nA rfl)).symm), (by rw [((hF.f hq1).f hq2).eq]; exact (hox302.slb Bh)), (by rw [((hF.f hq1).f hq2).eq]; exact (hos301.slb Gh)), (by rw [((hF.f hq1).f hq2).eq]; exact (hox304.slb Bh)), (rl ((hF.f hq1).f hq2)), (rl ((hF.f hq1).f hq2)), (rl ((hF.f hq1).f hq2))⟩
 ·skip
  refine Q1 ?_
  rintro w1_141 e1_141 w2_141 hw1_141 ⟨a1_141, c1_141, B1_141, he_141, hf_141, ho1_141⟩
  refine ⟨_, _, _, he_141, hf_141, rfl, ?_⟩
  refine Cr [3, 9] z4 rfl (List.forall_mem_cons.2 ⟨?_, (List.forall_mem_cons.2 ⟨?_, nofun⟩)⟩)
  ·skip
   refine Pz rfl (n := s.gens.length) (x0 := default) Fo underlying22 Bh rfl ⟨by omega, by omega⟩ (k := fun ax81 Bx81 hox81 => ?_)
   refine Cr [9] z4 rfl (List.forall_mem_cons.2 ⟨?_, nofun⟩)
   ·skip
    refine uC ?_
    rintro w1_201 e1_201 w2_201 hw1_201 ⟨a1_201, c1_201, B1_201, he_201, hf_201, ho1_201⟩
    refine ⟨_, _, _, he_201, hf_201, rfl, ?_⟩
    refine tE ?_
    refine Cr [12] z4 rfl (List.forall_mem_cons.2 ⟨?_, nofun⟩)
    ·skip
     refine Lf rfl Ag Jp (k := fun r265 hr265 => ?_)
     refine tV ?_
     refine Me ?_
     refine Z97 ?_
     refine fV ?_
     refine J9 ?_
     refine Tv (n := s.gens.length) Fo underlying22 Bh hox81 q0 gS Hb rfl (kk := fun Bx302 hox302 => ?_)
     refine bC ?_
     refine Pm ?_
     refine tN ?_
     refine Rw ?_
     refine AD6 ?_
     refine tD ?_
     refine lM ?_
     refine Aw (Ai Mb) (k := ?_)
     refine AD3 ?_
     refine Gb ?_
     refine Hz h.slot.toNat false sizeOf4 Gh ho1_141 (qd (qd q0)) K5 (k := fun Bs301 hos301 => ?_)
     refine AD1 ?_
     refine Xa ?_
     refine tD ?_
     refine jE ?_
     refine Aw (Ai Mb) (k := ?_)
     refine Sc ?_
     refine Se Ag Zb (k := fun r305 hr305 => ?_)
     refine Tu (s.free ++ ([h.slot] : List Int)) rfl Fo underlying22 Bh ho1_201 q0 (Bp.lit (xs := ([h.slot] : List Int)) Bh) ⟨by omega, by omega⟩ (n := s.free.length) (m := 1) (k := fun ax304 cx304 Bx304 hox304 => ?_)
     have hal304 : (s.free ++ ([h.slot] : List Int)).length = s.free.length + 1 := by first | rfl | exact List.length_append | simp
     refine tD ?_
     refine Aw (Ai Kv) (k := ?_)
     refine bC ?_
     refine Q2 ?_
     refine jM ?_
     refine xQ ?_
     refine Z6 ?_
     refine Ab results113 (Fb.agg isAgg25 sizeOf25 rfl me rfl z1) (fun w1 hw1 => ?_)
     exact ⟨ax81, s.gens.length, a1_141, c1_141, ax304, cx304, (Bx302 ++ (Bs301 ++ Bx304)), (rq ((hF.f hq1).f hq2)), (Ba (L := (Bx302 ++ (Bs301 ++ Bx304))) (hw1.perm ((q0.trans (qd (qb q0))).trans (qd (qd (qb q0))))) (nA (nA rfl)).symm), (by rw [((hF.f hq1).f hq2).eq]; exact (hox302.slb Bh)), (by rw [((hF.f hq1).f hq2).eq]; exact (hos301.slb Gh)), (by rw [((hF.f hq1).f hq2).eq]; exact (hox304.slb Bh)), (rl ((hF.f hq1).f hq2)), (rl ((hF.f hq1).f hq2)), (rl ((hF.f hq1).f hq2))⟩
  ·skip
   refine uC ?_
   rintro w1_201 e1_201 w2_201 hw1_201 ⟨a1_201, c1_201, B1_201, he_201, hf_201, ho1_201⟩
   refine ⟨_, _, _, he_201, hf_201, rfl, ?_⟩
   refine Cr [3] z4 rfl (List.forall_mem_cons.2 ⟨?_, nofun⟩)
   ·skip
    refine Pz rfl (n := s.gens.length) (x0 := default) Fo underlying22 Bh rfl ⟨by omega, by omega⟩ (k := fun ax81 Bx81 hox81 => ?_)
    refine tE ?_
    refine Cr [12] z4 rfl (List.forall_mem_cons.2 ⟨?_, nofun⟩)
    ·skip
     refine Lf rfl Ag Jp (k := fun r265 hr265 => ?_)
     refine tV ?_
     refine Me ?_
     refine Z97 ?_
     refine fV ?_
     refine J9 ?_
     refine Tv (n := s.gens.length) Fo underlying22 Bh hox81 q0 gS Hb rfl (kk := fun Bx302 hox302 => ?_)
     refine bC ?_
     refine Pm ?_
     refine tN ?_
     refine Rw ?_
     refine AD6 ?_
     refine tD ?_
     refine lM ?_
     refine Aw (Ai Mb) (k := ?_)
     refine AD3 ?_
     refine Gb ?_
     refine Hz h.slot.toNat false sizeOf4 Gh ho1_141 (qd (qd q0)) K5 (k := fun Bs301 hos301 => ?_)
     refine AD1 ?_
     refine Xa ?_
     refine tD ?_
     refine jE ?_
     refine Aw (Ai Mb) (k := ?_)
     refine Sc ?_
     refine Se Ag Zb (k := fun r305 hr305 => ?_)
     refine Tu (s.free ++ ([h.slot] : List Int)) rfl Fo underlying22 Bh ho1_201 q0 (Bp.lit (xs := ([h.slot] : List Int)) Bh) ⟨by omega, by omega⟩ (n := s.free.length) (m := 1) (k := fun ax304 cx304 Bx304 hox304 => ?_)
     have hal304 : (s.free ++ ([h.slot] : List Int)).length = s.free.length + 1 := by first | rfl | exact List.length_append | simp
     refine tD ?_
     refine Aw (Ai Kv) (k := ?_)
     refine bC ?_
     refine Q2 ?_
     refine jM ?_
     refine xQ ?_
     refine Z6 ?_
     refine Ab results113 (Fb.agg isAgg25 sizeOf25 rfl me rfl z1) (fun w1 hw1 => ?_)
     exact ⟨ax81, s.gens.length, a1_141, c1_141, ax304, cx304, (Bx302 ++ (Bs301 ++ Bx304)), (rq ((hF.f hq1).f hq2)), (Ba (L := (Bx302 ++ (Bs301 ++ Bx304))) (hw1.perm ((q0.trans (qd (qb q0))).trans (qd (qd (qb q0))))) (nA (nA rfl)).symm), (by rw [((hF.f hq1).f hq2).eq]; exact (hox302.slb Bh)), (by rw [((hF.f hq1).f hq2).eq]; exact (hos301.slb Gh)), (by rw [((hF.f hq1).f hq2).eq]; exact (hox304.slb Bh)), (rl ((hF.f hq1).f hq2)), (rl ((hF.f hq1).f hq2)), (rl ((hF.f hq1).f hq2))⟩

theorem T7 (w : World) {n_ : Int} : Calls Tryz.prog 64 (List.toArray [(vi n_)]) w fun e w2 => ∃ a1 : Option Addr, ∃ c1 : Nat, ∃ a2 : Option Addr, ∃ c2 : Nat, ∃ a3 : Option Addr, ∃ c3 : Nat, ∃ B : Aj, e = .returned (Value.tuple [(Value.agg [(vs a1 ((Wi n_).1.gens.length) c1), (vs a2 ((Wi n_).1.used.length) c2), (vs a3 ((Wi n_).1.free.length) c3)].toArray), (vi ((Wi n_).2))].toArray) ∧ Dh w w2 B ∧ Dw B eI 1 a1 (Wi n_).1.gens ∧ Dw B eB 1 a2 (Wi n_).1.used ∧ Dw B eI 1 a3 (Wi n_).1.free ∧ (Wi n_).1.gens.length ≤ 1000 ∧ (Wi n_).1.used.length ≤ 1000 ∧ (Wi n_).1.free.length ≤ 1000 := by
 have hF := Is.refl (Wi n_)
 refine enter func64 ntmps64 (h := ?_)
 refine Z2 ?_
 refine Ah Ag jB (k := fun r1 hr1 => ?_)
 refine Xc ?_
 refine Rx ?_
 refine Ao 8 rfl (fun hq1 => ?_) (fun hq1 => ?_)
 ·refine Ae 2 rfl ?_
  refine Xe ?_
  refine tI ?_
  refine Pi ?_
  refine Ab results64 (Fb.agg isAgg25 sizeOf25 rfl me rfl z1) (fun w1 hw1 => ?_)
  exact ⟨none, 0, none, 0, none, 0, [], (rq (hF.pos hq1)), (hw1.fresh_out.sub Nr), (rn (hF.pos hq1)), (rn (hF.pos hq1)), (rn (hF.pos hq1)), (rl (hF.pos hq1)), (rl (hF.pos hq1)), (rl (hF.pos hq1))⟩
 refine lP ?_
 refine Qh ?_
 refine Au rfl (fun hq2 => ?_) (fun hq2 => ?_)
 ·refine Bg ?_
  refine Cs ?_
  refine tI ?_
  refine Pi ?_
  refine Ab results64 (Fb.agg isAgg25 sizeOf25 rfl me rfl z1) (fun w1 hw1 => ?_)
  exact ⟨none, 0, none, 0, none, 0, [], (rq ((hF.neg hq1).pos hq2)), (hw1.fresh_out.sub Nr), (rn ((hF.neg hq1).pos hq2)), (rn ((hF.neg hq1).pos hq2)), (rn ((hF.neg hq1).pos hq2)), (rl ((hF.neg hq1).pos hq2)), (rl ((hF.neg hq1).pos hq2)), (rl ((hF.neg hq1).pos hq2))⟩
 refine Js ?_
 refine rS (σ1 := List Int) (σ2 := Option Addr) (σ3 := Nat) (σ4 := Aj) (σ5 := List Bool) (σ6 := Option Addr) (σ7 := Nat) (σ8 := Aj) (σ9 := Nat) (fun x_1 x_1a x_1c x_1B x_2 x_2a x_2c x_2B r122 => (x_2B ++ (x_1B ++ ((r122, oc [(vs x_1a x_1.length x_1c), (vs x_2a x_2.length x_2c), (vs none 0 0)] 25) :: ((r1, oc [(vs none 0 0), (vs none 0 0), (vs none 0 0)] 25) :: []))))) (fun x_1 x_1a x_1c x_1B x_2 x_2a x_2c x_2B r122 => [(0, (vi n_)), (2, (Value.pointer (some ⟨r1, 0, none⟩))), (3, (vi 0)), (4, (Value.pointer (some ⟨r122, 0, none⟩)))]) (fun x_1 x_1a x_1c x_1B x_2 x_2a x_2c x_2B r122 => Is (Is.xr2 ((hF.neg hq1).neg hq2)) (x_1, x_2) ∧ Bi eI 1 3 x_1a x_1c x_1B x_1 ∧ Bi eB 1 4 x_2a x_2c x_2B x_2 ∧ x_1.length ≤ 64 ∧ x_2.length ≤ 64) ?_ ?_
 ·skip
  refine Xo (V := []) Da 6 z4 ?_
  refine AE7 ?_
  refine Cr [1, 3, 5] z4 rfl (List.forall_mem_cons.2 ⟨?_, (List.forall_mem_cons.2 ⟨?_, (List.forall_mem_cons.2 ⟨?_, nofun⟩)⟩)⟩)
  ·skip
   refine Ff rfl (n := n_.toNat) (x0 := default) Fo underlying22 Bh rfl ⟨by omega, by omega⟩ (k := fun ax41 Bx41 hox41 => ?_)
   refine Cr [3, 5] z4 rfl (List.forall_mem_cons.2 ⟨?_, (List.forall_mem_cons.2 ⟨?_, nofun⟩)⟩)
   ·skip
    refine Ff rfl (n := n_.toNat) (x0 := default) eJ underlying23 Gh rfl ⟨by omega, by omega⟩ (k := fun ax81 Bx81 hox81 => ?_)
    refine yM ?_
    refine Cr [5] z4 rfl (List.forall_mem_cons.2 ⟨?_, nofun⟩)
    ·skip
     refine Lf rfl Ag jB (k := fun r122 hr122 => ?_)
     refine Z94 ?_
     refine Eh ?_
     refine Ci _ ((((qa (qc (qc q0))).trans (qa q0)).trans (qb (qb (qd q0)))).trans (qd (qb (qb q0)))) ?_
     exact Ha (List.replicate n_.toNat (default : Int)) ax41 n_.toNat Bx41 (List.replicate n_.toNat (default : Bool)) ax81 n_.toNat Bx81 r122 ⟨(Is.refl (Is.xr2 ((hF.neg hq1).neg hq2))), hox41, hox81, wY, wY⟩ se (List.Perm.refl _)
   ·skip
    refine Lf rfl Ag jB (k := fun r122 hr122 => ?_)
    refine Cr [3] z4 rfl (List.forall_mem_cons.2 ⟨?_, nofun⟩)
    ·skip
     refine Ff rfl (n := n_.toNat) (x0 := default) eJ underlying23 Gh rfl ⟨by omega, by omega⟩ (k := fun ax81 Bx81 hox81 => ?_)
     refine lX ?_
     refine Ci _ ((((qc (qa (qc q0))).trans (qa (qc q0))).trans (qb (qb (qd q0)))).trans (qd (qb (qb q0)))) ?_
     exact Ha (List.replicate n_.toNat (default : Int)) ax41 n_.toNat Bx41 (List.replicate n_.toNat (default : Bool)) ax81 n_.toNat Bx81 r122 ⟨(Is.refl (Is.xr2 ((hF.neg hq1).neg hq2))), hox41, hox81, wY, wY⟩ se (List.Perm.refl _)
  ·skip
   refine Ff rfl (n := n_.toNat) (x0 := default) eJ underlying23 Gh rfl ⟨by omega, by omega⟩ (k := fun ax81 Bx81 hox81 => ?_)
   refine Cr [1, 5] z4 rfl (List.forall_mem_cons.2 ⟨?_, (List.forall_mem_cons.2 ⟨?_, nofun⟩)⟩)
   ·skip
    refine Ff rfl (n := n_.toNat) (x0 := default) Fo underlying22 Bh rfl ⟨by omega, by omega⟩ (k := fun ax41 Bx41 hox41 => ?_)
    refine yM ?_
    refine Cr [5] z4 rfl (List.forall_mem_cons.2 ⟨?_, nofun⟩)
    ·skip
     refine Lf rfl Ag jB (k := fun r122 hr122 => ?_)
     refine Z94 ?_
     refine Eh ?_
     refine Ci _ ((((qa (qc (qc q0))).trans (qa q0)).trans (qb (qb q0))).trans (qd (qb (qb q0)))) ?_
     exact Ha (List.replicate n_.toNat (default : Int)) ax41 n_.toNat Bx41 (List.replicate n_.toNat (default : Bool)) ax81 n_.toNat Bx81 r122 ⟨(Is.refl (Is.xr2 ((hF.neg hq1).neg hq2))), hox41, hox81, wY, wY⟩ se (List.Perm.refl _)
   ·skip
    refine Lf rfl Ag jB (k := fun r122 hr122 => ?_)
    refine Cr [1] z4 rfl (List.forall_mem_cons.2 ⟨?_, nofun⟩)
    ·skip
     refine Ff rfl (n := n_.toNat) (x0 := default) Fo underlying22 Bh rfl ⟨by omega, by omega⟩ (k := fun ax41 Bx41 hox41 => ?_)
     refine lX ?_
     refine Ci _ ((((qc (qa (qc q0))).trans (qa (qc q0))).trans (qb (qb q0))).trans (qd (qb (qb q0)))) ?_
     exact Ha (List.replicate n_.toNat (default : Int)) ax41 n_.toNat Bx41 (List.replicate n_.toNat (default : Bool)) ax81 n_.toNat Bx81 r122 ⟨(Is.refl (Is.xr2 ((hF.neg hq1).neg hq2))), hox41, hox81, wY, wY⟩ se (List.Perm.refl _)
  ·skip
   refine Lf rfl Ag jB (k := fun r122 hr122 => ?_)
   refine Cr [1, 3] z4 rfl (List.forall_mem_cons.2 ⟨?_, (List.forall_mem_cons.2 ⟨?_, nofun⟩)⟩)
   ·skip
    refine Ff rfl (n := n_.toNat) (x0 := default) Fo underlying22 Bh rfl ⟨by omega, by omega⟩ (k := fun ax41 Bx41 hox41 => ?_)
    refine Cr [3] z4 rfl (List.forall_mem_cons.2 ⟨?_, nofun⟩)
    ·skip
     refine Ff rfl (n := n_.toNat) (x0 := default) eJ underlying23 Gh rfl ⟨by omega, by omega⟩ (k := fun ax81 Bx81 hox81 => ?_)
     refine lX ?_
     exact Ha (List.replicate n_.toNat (default : Int)) ax41 n_.toNat Bx41 (List.replicate n_.toNat (default : Bool)) ax81 n_.toNat Bx81 r122 ⟨(Is.refl (Is.xr2 ((hF.neg hq1).neg hq2))), hox41, hox81, wY, wY⟩ se (List.Perm.refl _)
   ·skip
    refine Ff rfl (n := n_.toNat) (x0 := default) eJ underlying23 Gh rfl ⟨by omega, by omega⟩ (k := fun ax81 Bx81 hox81 => ?_)
    refine Cr [1] z4 rfl (List.forall_mem_cons.2 ⟨?_, nofun⟩)
    ·skip
     refine Ff rfl (n := n_.toNat) (x0 := default) Fo underlying22 Bh rfl ⟨by omega, by omega⟩ (k := fun ax41 Bx41 hox41 => ?_)
     refine lX ?_
     refine Ci _ ((((qc (qc (qa q0))).trans (qa (qc (qc q0)))).trans (qb (qb q0))).trans (qd (qb (qb q0)))) ?_
     exact Ha (List.replicate n_.toNat (default : Int)) ax41 n_.toNat Bx41 (List.replicate n_.toNat (default : Bool)) ax81 n_.toNat Bx81 r122 ⟨(Is.refl (Is.xr2 ((hF.neg hq1).neg hq2))), hox41, hox81, wY, wY⟩ se (List.Perm.refl _)
 rintro x_1 x_1a x_1c x_1B x_2 x_2a x_2c x_2B r122 ⟨hJ3, hx_1, hx_2, hi4, hi5⟩
 refine cT ?_
 refine Pk ?_
 refine lS ?_
 refine Ny (σ1 := Nat) (σ2 := Nat) (σ3 := List Int) (σ4 := Option Addr) (σ5 := Nat) (σ6 := Aj) (fun n_8 x_6 x_7 x_7a x_7c x_7B => (x_7B ++ (x_2B ++ (x_1B ++ ((r122, oc [(vs x_1a x_1.length x_1c), (vs x_2a x_2.length x_2c), (vs x_7a x_7.length x_7c)] 25) :: ((r1, oc [(vs none 0 0), (vs none 0 0), (vs none 0 0)] 25) :: [])))))) (fun n_8 x_6 x_7 x_7a x_7c x_7B => [(0, (vi n_)), (2, (Value.pointer (some ⟨r1, 0, none⟩))), (3, (vi 0)), (4, (Value.pointer (some ⟨r122, 0, none⟩))), (18, (vi n_)), (19, (vi ((x_6 : Nat) : Int)))]) (fun n_8 x_6 x_7 x_7a x_7c x_7B => (n_ - ((x_6 : Nat) : Int)).toNat < n_8 ∧ Is (Qm n_ x_1 x_2 ((n_ - ((0 : Nat) : Int)).toNat + 1) 0 []) (Qm n_ x_1 x_2 n_8 x_6 x_7) ∧ Bi eI 1 3 x_7a x_7c x_7B x_7 ∧ x_7.length ≤ x_6 ∧ ((x_6 : Nat) : Int) ≤ n_) (fun n_8 x_6 x_7 x_7a x_7c x_7B => n_8) ((n_ - ((0 : Nat) : Int)).toNat + 1) 0 ([]) none 0 ([]) ?_ se (List.Perm.refl _) ?_
 ·exact ⟨Nat.lt_succ_self _, Is.refl _, Bi.nil, Kh, Kh⟩
 ·rintro (_ | n_8) x_6 x_7 x_7a x_7c x_7B ⟨hm10, hF9, hx_7, hi11, hi12⟩
  ·omega
  refine Zd ?_
  refine Au rfl (fun hq3 => ?_) (fun hq3 => ?_)
  rotate_left
  ·refine Ca ?_
   refine oM ?_
   refine Z2 ?_
   refine xQ ?_
   refine Z6 ?_
   refine Ab results64 (Fb.agg isAgg25 sizeOf25 rfl me rfl z1) (fun w1 hw1 => ?_)
   exact ⟨x_1a, x_1c, x_2a, x_2c, x_7a, x_7c, (x_1B ++ (x_2B ++ x_7B)), (rq ((((hF.neg hq1).neg hq2).rn2 hJ3).rn2 (hF9.neg hq3))), (Ba (L := (x_1B ++ (x_2B ++ x_7B))) (hw1.perm ((q0.trans (qd q0)).trans (qd (qd q0)))) (nA (nA rfl)).symm), (by rw [((((hF.neg hq1).neg hq2).rn2 hJ3).rn2 (hF9.neg hq3)).eq]; exact (hx_1.slb Bh)), (by rw [((((hF.neg hq1).neg hq2).rn2 hJ3).rn2 (hF9.neg hq3)).eq]; exact (hx_2.slb Gh)), (by rw [((((hF.neg hq1).neg hq2).rn2 hJ3).rn2 (hF9.neg hq3)).eq]; exact (hx_7.slb Bh)), (rl ((((hF.neg hq1).neg hq2).rn2 hJ3).rn2 (hF9.neg hq3))), (rl ((((hF.neg hq1).neg hq2).rn2 hJ3).rn2 (hF9.neg hq3))), (rl ((((hF.neg hq1).neg hq2).rn2 hJ3).rn2 (hF9.neg hq3)))⟩
  refine fJ ?_
  refine Z4 ?_
  refine Z1 ?_
  refine Cs ?_
  refine L1 ?_
  refine Cg ?_
  refine bJ ?_
  refine Cg ?_
  refine bJ ?_
  refine Ah Ag Zb (k := fun r162 hr162 => ?_)
  refine Az (x_7 ++ ([((n_ - 1) - ((x_6 : Nat) : Int))] : List Int)) rfl Fo underlying22 Bh hx_7 (qb q0) (Bp.lit (xs := ([((n_ - 1) - ((x_6 : Nat) : Int))] : List Int)) Bh) ⟨by omega, by omega⟩ (n := x_7.length) (m := 1) (k := fun ax161 cx161 Bx161 hox161 => ?_)
  have hal161 : (x_7 ++ ([((n_ - 1) - ((x_6 : Nat) : Int))] : List Int)).length = x_7.length + 1 := by first | rfl | exact List.length_append | simp
  refine xS ?_
  refine Eh ?_
  refine jC ?_
  refine Ci _ (((((qc (qa (qc (qc (qa q0))))).trans (qa (qc (qa (qc (qc q0)))))).trans (qb (qb (qd (qb (qd q0)))))).trans (qd (qb (qb (qd (qb q0)))))).trans (qd (qd (qb (qb q0))))) ?_
  refine Cj _ (List.Sublist.append Ou (List.Sublist.append Ou (List.Sublist.append Ou oJ))) ?_
  exact Kt n_8 (x_6 + 1) (x_7 ++ ([((n_ - 1) - ((x_6 : Nat) : Int))] : List Int)) ax161 cx161 Bx161 ⟨by omega, (hF9.pos hq3), hox161, z2, z2⟩ (Nat.lt_succ_self _) se (List.Perm.refl _)

theorem E0 (w : World) {a_gens_a : Option Addr} {a_gens_c : Nat} {a_used_a : Option Addr} {a_used_c : Nat} {a_free_a : Option Addr} {a_free_c : Nat} {b_gens_a : Option Addr} {b_gens_c : Nat} {b_used_a : Option Addr} {b_used_c : Nat} {b_free_a : Option Addr} {b_free_c : Nat} {a : Ax} {b : Ax} (h_a_gens : Sl w eI 1 a_gens_a a.gens) (n_a_gens : a.gens.length ≤ 1000) (h_a_used : Sl w eB 1 a_used_a a.used) (n_a_used : a.used.length ≤ 1000) (h_a_free : Sl w eI 1 a_free_a a.free) (n_a_free : a.free.length ≤ 1000) (h_b_gens : Sl w eI 1 b_gens_a b.gens) (n_b_gens : b.gens.length ≤ 1000) (h_b_used : Sl w eB 1 b_used_a b.used) (n_b_used : b.used.length ≤ 1000) (h_b_free : Sl w eI 1 b_free_a b.free) (n_b_free : b.free.length ≤ 1000) : Hn Tryz.prog 60 [(Value.agg [(vs a_gens_a a.gens.length a_gens_c), (vs a_used_a a.used.length a_used_c), (vs a_free_a a.free.length a_free_c)].toArray), (Value.agg [(vs b_gens_a b.gens.length b_gens_c), (vs b_used_a b.used.length b_used_c), (vs b_free_a b.free.length b_free_c)].toArray)] w (Value.bool (dS a b)) := by
 have hF := Is.refl (dS a b)
 refine enter func60 ntmps60 (h := ?_)
 refine Z2 ?_
 refine Ah Ag Jp (k := fun r1 hr1 => ?_)
 refine Ah Ag Jp (k := fun r2 hr2 => ?_)
 refine Jr ?_
 refine Z92 ?_
 refine Z92 ?_
 refine Fu (Ad call101) (fun w1 hw1 => D7 w1 (s1 := a.gens) (s2 := b.gens) (h_s1 := (Bp.of_base h_a_gens) w1 hw1) (n_s1 := z6) (h_s2 := (Bp.of_base h_b_gens) w1 hw1) (n_s2 := z6)) (k := ?_)
 refine Cg ?_
 refine Di 10 rfl (fun hq1 => ?_) (fun hq1 => ?_)
 rotate_left
 ·refine Ae 5 rfl ?_
  refine fK ?_
  refine Ky ?_
  refine Ab results60 z1 (fun w1 hw1 => ?_)
  exact ⟨(rq (hF.f hq1)), hw1.ext_out⟩
 refine tH ?_
 refine tH ?_
 refine Ih (Ad call102) (fun w1 hw1 => AI1 w1 (s1 := a.used) (s2 := b.used) (h_s1 := (Bp.of_base h_a_used) w1 hw1) (n_s1 := z6) (h_s2 := (Bp.of_base h_b_used) w1 hw1) (n_s2 := z6)) (k := ?_)
 refine Pj ?_
 refine Di 17 rfl (fun hq2 => ?_) (fun hq2 => ?_)
 rotate_left
 ·refine Ae 5 rfl ?_
  refine Ky ?_
  refine Ab results60 z1 (fun w1 hw1 => ?_)
  exact ⟨(rq ((hF.t hq1).f hq2)), hw1.ext_out⟩
 refine N6 ?_
 refine N6 ?_
 refine Ih (Ad call101) (fun w1 hw1 => D7 w1 (s1 := a.free) (s2 := b.free) (h_s1 := (Bp.of_base h_a_free) w1 hw1) (n_s1 := z6) (h_s2 := (Bp.of_base h_b_free) w1 hw1) (n_s2 := z6)) (k := ?_)
 refine Vv ?_
 refine Ab results60 z1 (fun w1 hw1 => ?_)
 exact ⟨(rq ((hF.t hq1).t hq2)), hw1.ext_out⟩

end Go.Proofs.YtopjaeoklkpcpaaGreatDoor.Jd

