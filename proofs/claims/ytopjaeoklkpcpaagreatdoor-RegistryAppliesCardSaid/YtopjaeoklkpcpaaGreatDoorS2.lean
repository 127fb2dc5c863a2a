/- Part of the proofs of this seat: walks and plain facts. No condition. -/
import Derived.Test.YtopjaeoklkpcpaaGreatDoorS0
import Derived.Lib.AppendZeros
import Derived.Lib.AppendZerosOnto
import Derived.Lib.Overlaps
import Derived.Lib.Builder
import Derived.Lib.UnsafeStr
import Derived.Shelf.Slices.Equal
import Derived.Ground.Names2Prog
import Derived.Shelf.Slices.Clone
import Derived.Shelf.Slices.Empties2
import Derived.Ground.SlgnProg
import Derived.Shelf.SlicesE.Clone
import Derived.Test.YtopjaeoklkpcpaaGreatDoorProg
import Derived.Test.YtopjaeoklkpcpaaGreatDoorChecked
import Derived.WalkKit
import Derived.LaidEql
import Derived.Stop.Asserts
import Derived.RowKitTokens
import Derived.Test.YtopjaeoklkpcpaaGreatDoorS1
namespace Go.Proofs.YtopjaeoklkpcpaaGreatDoor.Jd
open Go.Proofs.Tryz
open Go.RowKit (Below)
set_option linter.unusedVariables false
set_option linter.unusedSimpArgs false
def Kl (a : Option Addr) (k lo c : Nat) : Option Addr := if c = lo then a else a.map fun x => x.add (lo * k)
theorem Sl.off {w : World} {α : Type} {enc : α → List Value} {k : Nat} {a : Option Addr} {xs : List α} (h : Sl w enc k a xs) (lo c : Nat) (hc : xs.length ≤ c) : Sl w enc k (Kl a k lo c) (xs.drop lo) := fun i x hx => by
  rw [List.getElem?_drop] at hx;have hlt := (List.getElem?_eq_some_iff.1 hx).1;obtain ⟨b, off, rfl, h2, h3⟩ := h _ _ hx;refine ⟨b, off + lo * k, ?_, h2, fun j v hv => ?_⟩
  · simp only [Kl];rw [if_neg z4, Option.map_some, Bh]
  · have := h3 j v hv;rw [Nat.add_mul] at this;rw [show off + lo * k + i * k + j = off + (lo * k + i * k) + j by omega];exact this
section
variable {b0 : World} {Mk : List Nat} {B L : An} {α : Type} {enc : α → List Value} {k : Nat} {a : Option Addr} {xs : List α}
theorem Bv.off (h : Bv b0 Mk L enc k a xs) (lo c : Nat) (hc : xs.length ≤ c) : Bv b0 Mk L enc k (Kl a k lo c) (xs.drop lo) := fun w hw => (h w hw).off lo c hc
theorem Ct.off (h : Ct b0 B enc k a xs) (lo c : Nat) (hc : xs.length ≤ c) : Ct b0 B enc k (Kl a k lo c) (xs.drop lo) := fun w he hw => (h w he hw).off lo c hc
theorem SH.notIn {w : World} {r : Nat} {o : Obj} {R : An} {β : Type} {ys : List β} (h : SH b0 Mk L w) (hp : List.Perm L ((r, o) :: (B ++ R))) : ∀ m ∈ keys B, tG (some (⟨r, 0, none⟩ : Addr)) ys m := fun m hm p hp' _ e => by
  cases hp'
  have hn := (h.perm hp).nd;simp only [List.map_cons, List.nodup_cons, List.map_append, List.mem_append] at hn;have e' : m = r := e;subst e';exact hn.1 (.inl hm)
theorem Bg.nd {e : TypeId} {c : Nat} (h : Bg enc k e a c B xs) : (B.map Prod.fst).Nodup := by
  rcases h with ⟨_, rfl, _⟩ | ⟨r, cur, fz, _, rfl, _⟩ <;> simp
end
section
variable {P : Program} {rd : Option Nat} {b0 : World} {Mk : List Nat} {N : Nat} {D : List Deferred} {ops : Array Oper} {L V : An} {E : Ef} {T : Act → World → Prop}
variable {op : Op} {ty : TypeId} {pos : String} {after : Array Edge} {d : Nat}
theorem Ek {t e k : TypeId} {x y : Operand} {a : Option Addr} {n c : Nat} {i : Int} {ki : IntKind} (lo m : Nat) (hU : ∀ w, (underlying t).run P w = .ok (.slice e) w) (hS : ∀ w, (sizeOf e).run P w = .ok k w) (hlo : lo ≤ n) (hnc : n ≤ c) (hm : m = n - lo) (hx : ev E x = some (.slice a n c) := by rfl) (hy : ev E y = some (.int ki i) := by rfl) (hi : i = (lo : Int) := by first | rfl | omega) :
    Dm P N D b0 Mk L E (.slice t x (some y) none none) ty (.slice (Kl a k lo c) m (c - lo)) := fun ac w ha _ => by
  subst hi hm;simp [Gk, execOp, ha.eval hx, ha.eval hy, Instr.sliceAt, hU, Instr.slice, Instr.sliceBounds, Instr.sliceBound, asIntOf, hlo, hS w, Kl]
theorem bC {t e k : TypeId} {x y y2 : Operand} {a : Option Addr} {n c : Nat} {i i2 : Int} {ki ki2 : IntKind} (lo hi m : Nat) (hU : ∀ w, (underlying t).run P w = .ok (.slice e) w) (hS : ∀ w, (sizeOf e).run P w = .ok k w) (hlo : lo ≤ hi) (hhi : hi ≤ c) (hm : m = hi - lo) (hx : ev E x = some (.slice a n c) := by rfl) (hy : ev E y = some (.int ki i) := by rfl) (hy2 : ev E y2 = some (.int ki2 i2) := by rfl) (hi1 : i = (lo : Int) := by first | rfl | omega) (hi2 : i2 = (hi : Int) := by first | rfl | omega) :
    Dm P N D b0 Mk L E (.slice t x (some y) (some y2) none) ty (.slice (Kl a k lo c) m (c - lo)) := fun ac w ha _ => by
  subst hi1 hi2 hm;simp [Gk, execOp, ha.eval hx, ha.eval hy, ha.eval hy2, Instr.sliceAt, hU, Instr.slice, Instr.sliceBounds, Instr.sliceBound, asIntOf, hlo, hhi, hS w, Kl]
theorem Tg {t e k : TypeId} {x y y2 y3 : Operand} {a : Option Addr} {n c : Nat} {i i2 i3 : Int} {ki ki2 ki3 : IntKind} (lo hi mx m : Nat) (hU : ∀ w, (underlying t).run P w = .ok (.slice e) w) (hS : ∀ w, (sizeOf e).run P w = .ok k w) (hlo : lo ≤ hi) (hhi : hi ≤ mx) (hmx : mx ≤ c) (hm : m = hi - lo) (hx : ev E x = some (.slice a n c) := by rfl) (hy : ev E y = some (.int ki i) := by rfl) (hy2 : ev E y2 = some (.int ki2 i2) := by rfl) (hy3 : ev E y3 = some (.int ki3 i3) := by rfl) (hi1 : i = (lo : Int) := by first | rfl | omega) (hi2 : i2 = (hi : Int) := by first | rfl | omega) (hi3 : i3 = (mx : Int) := by first | rfl | omega) :
    Dm P N D b0 Mk L E (.slice t x (some y) (some y2) (some y3)) ty (.slice (Kl a k lo mx) m (mx - lo)) := fun ac w ha _ => by
  subst hi1 hi2 hi3 hm;simp [Gk, execOp, ha.eval hx, ha.eval hy, ha.eval hy2, ha.eval hy3, Instr.sliceAt, hU, Instr.slice, Instr.sliceBounds, Instr.sliceBound, asIntOf, hlo, hhi, hmx, hS w, Kl]
theorem E3 {t e : TypeId} {x : Operand} {a : Option Addr} {n c : Nat} (hU : ∀ w, (underlying t).run P w = .ok (.slice e) w) (hx : ev E x = some (.slice a n c) := by rfl) :
    Dm P N D b0 Mk L E (.call { callee := .builtin .cap, args := #[x], argTypes := #[t] }) ty (.int .i64 c) := fun ac w ha _ => by
  simp [Gk, execOp, resolve, invoke, builtin, ha.eval hx, Builtin.cap_, hU, goInt]
theorem iH {α : Type} {enc : α → List Value} {k by_ : Nat} {t e : TypeId} {z : Value} {x y : Operand} {a a' : Option Addr} {c c' dn dc sn : Nat} {B : An} {xs ys : List α} (lo q : Nat) (hT : Ty P e k by_ z) (hU : P.underlying t = some (.slice e)) (hE : Dk enc k) (ho : Bg enc k e a c B xs)
    (hs : Bv b0 Mk L enc k a' ys) (hB : ∀ p ∈ B, p ∈ L) (hq : q = min sn dn) (hqy : q ≤ ys.length) (hlo : lo ≤ xs.length) (hc : lo + q ≤ c) (hx : ev E x = some (.slice (Kl a k lo c) dn dc) := by rfl) (hy : ev E y = some (.slice a' sn c') := by rfl) :
    Vp P N D b0 Mk L E (.call { callee := .builtin .copy, args := #[x, y], argTypes := #[t, t] }) ty B An (fun _ => .value (.int .i64 q)) (fun h => h) (fun h => Bg enc k e a c h (xs.take lo ++ ys.take q ++ xs.drop (lo + q))) := by
  intro ac w ha hw;obtain ⟨i, hi, rfl, rfl, hz⟩ := hT.ex;have Iz : ∀ (v' : Value) (w' : World), (Builtin.copy_ #[t, t] ty #[.slice (Kl a i.size lo c) dn dc, .slice a' sn c']).run P w = .ok v' w' →
      (execOp ac.eval (Gk (.call { callee := .builtin .copy, args := #[x, y], argTypes := #[t, t] }) ty)).run P w = .ok (.value v') w' := fun v' w' h => by
    simp [Gk, execOp, resolve, invoke, builtin, ha.eval hx, ha.eval hy, h]
  have hsl := hs w hw;have hmin : Nat.min sn dn = q := hq.symm;have hle : xs.length ≤ c := ho.le';by_cases hq0 : q = 0
  · have e0 : xs.take lo ++ ys.take q ++ xs.drop (lo + q) = xs := by rw [hq0]; simp
    rw [e0];refine ⟨B, w, Iz _ _ ?_, Tr.refl (fun p hp => hw.own p (hB p hp)) ho.nd, ho⟩;have hf : ∀ v, (Builtin.firstCells i.size 0 v).run P w = .ok #[] w ∨ True := fun _ => .inr trivial
    rw [hq0] at hmin ⊢;rcases Kl a i.size lo c with _ | ad <;> rcases a' with _ | ad' <;> simp [Builtin.copy_, run_underlying hU, Builtin.lenOf, Builtin.firstCells, sizeOf, typeInfo, hi, hmin, loadCells, loadCellsFrom, storeCells, goInt]
  · rcases ho with ⟨rfl, rfl, rfl⟩ | ⟨r, cur, fz, rfl, rfl, hfz, h1, h2, h3⟩
    · omega
    · have hh : w.heap[r]? = some (.cells cur e fz) := hw.own _ (hB _ List.mem_cons_self);have hyn : (ys.take q).length = q := by rw [List.length_take]; omega
      have hfl : (Ei enc (ys.take q)).length = q * i.size := by rw [Cp hE, hyn]
      have b43 : lo * i.size + q * i.size ≤ c * i.size := by rw [← Nat.add_mul]; exact Nat.mul_le_mul_right _ hc
      have hst := Gi P r (lo * i.size) e fz (Ei enc (ys.take q)) 0 cur w hh hfz (by rw [hfl]; omega) (Td hE _);have hoff : Kl (some (⟨r, 0, none⟩ : Addr)) i.size lo c = some ⟨r, lo * i.size, none⟩ := by
        simp only [Kl]; rw [if_neg z4, Option.map_some, Bh, Nat.zero_add]
      obtain ⟨y0, hy0⟩ : ∃ y0, ys[0]? = some y0 := ⟨_, List.getElem?_eq_getElem z4⟩
      obtain ⟨b1, o1, rfl, _, _⟩ := hsl 0 y0 hy0;have hl : (loadCells ⟨b1, o1, none⟩ (q * i.size)).run P w = .ok (Ei enc (ys.take q)).toArray w := by
        rw [← hfl];exact run_loadCells_list w _ _ (Sl.cells hE hsl q hqy)
      refine ⟨[(r, .cells (cur.toList.take (lo * i.size + 0) ++ Ei enc (ys.take q) ++ cur.toList.drop (lo * i.size + 0 + (Ei enc (ys.take q)).length)).toArray e fz)], _, Iz _ _ ?_, dT hh, Bg.fullF ?_ ?_ ?_ ?_⟩
      · rw [hoff];simp [Builtin.copy_, run_underlying hU, Builtin.lenOf, Builtin.firstCells, sizeOf, typeInfo, hi, hmin, hl, hst, goInt]
      · refine hfz.imp id fun h => Nat.le_trans (Nat.le_of_eq ?_) h
        simp only [List.size_toArray, List.length_append, List.length_take, List.length_drop, Array.length_toList, hfl, h2]; omega
      · simp only [List.length_append, List.length_take, List.length_drop]; omega
      · simp only [List.size_toArray, List.length_append, List.length_take, List.length_drop, Array.length_toList, hfl, h2]; omega
      · have hA : cur.toList.take (lo * i.size) = Ei enc (xs.take lo) := by
          have := congrArg (List.take (lo * i.size)) h3;rw [List.take_take, Nat.min_eq_left (Nat.mul_le_mul_right _ hlo)] at this;rw [this];have hl : Ei enc xs = Ei enc (xs.take lo) ++ Ei enc (xs.drop lo) := by rw [← Gr, List.take_append_drop]
          rw [hl, List.take_left' (by rw [Cp hE, List.length_take]; congr 1; omega)]
        simp only [List.toList_toArray, Nat.add_zero, hfl];rw [hA, Gr, Gr];by_cases hlong : lo + q ≤ xs.length
        · have hD : (cur.toList.drop (lo * i.size + q * i.size)).take ((xs.length - (lo + q)) * i.size) = Ei enc (xs.drop (lo + q)) := by
            have := congrArg (List.drop ((lo + q) * i.size)) h3;rw [List.drop_take, ← Nat.sub_mul] at this;rw [← Nat.add_mul, this];have hl : Ei enc xs = Ei enc (xs.take (lo + q)) ++ Ei enc (xs.drop (lo + q)) := by rw [← Gr, List.take_append_drop]
            rw [hl, List.drop_left' (by rw [Cp hE, List.length_take]; congr 1; omega)]
          have hlen : (xs.take lo ++ ys.take q ++ xs.drop (lo + q)).length * i.size = (Ei enc (xs.take lo) ++ Ei enc (ys.take q)).length + (xs.length - (lo + q)) * i.size := by
            rw [@List.length_append _ (Ei enc (xs.take lo)), hfl, Cp hE];simp only [List.length_append, List.length_drop, Nat.add_mul, hyn]
          rw [hlen, List.take_length_add_append, hD]
        · have hd : xs.drop (lo + q) = [] := List.drop_eq_nil_of_le z4;rw [hd];simp only [Ei, List.map_nil, List.flatten_nil, List.append_nil];rw [List.take_left' (by
            have h5 : (List.map enc (List.take lo xs)).flatten.length = (xs.take lo).length * i.size := Cp hE _;have h6 : (List.map enc (List.take q ys)).flatten.length = (ys.take q).length * i.size := Cp hE _;rw [List.length_append, List.length_append, h5, h6, Nat.add_mul])]
theorem dX {α : Type} {enc : α → List Value} {k by_ : Nat} {t e : TypeId} {z : Value} {x y : Operand} {a a' : Option Addr} {c c' dn dc sn : Nat} {B R : An} {xs ys : List α} {l : List Oper} (lo q : Nat) (zs : List α) (hz : xs.take lo ++ ys.take q ++ xs.drop (lo + q) = zs) (hT : Ty P e k by_ z) (hU : P.underlying t = some (.slice e)) (hE : Dk enc k) (ho : Bg enc k e a c B xs) (hL : List.Perm L (B ++ R))
    (hs : Bv b0 Mk L enc k a' ys) (hq : q = min sn dn) (hqy : q ≤ ys.length) (hlo : lo ≤ xs.length) (hc : lo + q ≤ c) (hx : ev E x = some (.slice (Kl a k lo c) dn dc) := by rfl) (hy : ev E y = some (.slice a' sn c') := by rfl) (hd : Nat.blt d N = true := by rfl)
    (kk : ∀ B2, Bg enc k e a c B2 zs → JL P rd b0 Mk N D ops (B2 ++ R) ((d, .int .i64 q) :: E) l T) :
    JL P rd b0 Mk N D ops L E ({ dst := some d, op := .call { callee := .builtin .copy, args := #[x, y], argTypes := #[t, t] }, type := ty, pos := pos, after := after, guard := none } :: l) T :=
  AK8 hL (iH lo q hT hU hE ho hs (fun p hp => hL.mem_iff.2 (List.mem_append_left _ hp)) hq hqy hlo hc hx hy) rfl hd (fun h hh => kk h (hz ▸ hh))
theorem dY {α : Type} {enc : α → List Value} {k by_ : Nat} {t e : TypeId} {z : Value} {x y : Operand} {a a' : Option Addr} {c c' dn dc sn : Nat} {B R : An} {xs ys : List α} {l : List (Bool × Oper)} (lo q : Nat) (zs : List α) (hz : xs.take lo ++ ys.take q ++ xs.drop (lo + q) = zs) (hT : Ty P e k by_ z) (hU : P.underlying t = some (.slice e)) (hE : Dk enc k) (ho : Bg enc k e a c B xs) (hV : List.Perm V (B ++ R))
    (hs : Bv b0 Mk (V ++ L) enc k a' ys) (hq : q = min sn dn) (hqy : q ≤ ys.length) (hlo : lo ≤ xs.length) (hc : lo + q ≤ c) (hx : ev E x = some (.slice (Kl a k lo c) dn dc) := by rfl) (hy : ev E y = some (.slice a' sn c') := by rfl) (hd : Nat.blt d N = true := by rfl)
    (kk : ∀ B2, Bg enc k e a c B2 zs → JD P rd b0 Mk N D ops L (B2 ++ R) ((d, .int .i64 q) :: E) l T) :
    JD P rd b0 Mk N D ops L V E ((false, { dst := some d, op := .call { callee := .builtin .copy, args := #[x, y], argTypes := #[t, t] }, type := ty, pos := pos, after := after, guard := none }) :: l) T :=
  V1 hV (iH lo q hT hU hE ho hs (fun p hp => List.mem_append_left _ (hV.mem_iff.2 (List.mem_append_left _ hp))) hq hqy hlo hc hx hy) rfl hd (fun h hh => kk h (hz ▸ hh))
theorem Th {α : Type} {enc : α → List Value} {k : Nat} {z : Value} {x0 : α} (hE : Dk enc k) (hz : Di z = enc x0) (n : Nat) : (Builtin.zeroCells z.cells n).toList = Ei enc (List.replicate n x0) := by
  have h := iC hE hz n;have hs : z.cells.size = k := by rw [Hc, hz]; simpa using hE.len x0
  have e : Builtin.zeroCells z.cells n = madeCells z.cells (n * k) := by rw [← hs]; rfl
  rw [e, h]
theorem rC {α : Type} {enc : α → List Value} {k by_ : Nat} {t e : TypeId} {z : Value} {x : Operand} {a : Option Addr} {c dn dc : Nat} {B : An} {xs : List α} (lo : Nat) {x0 : α} (hT : Ty P e k by_ z) (hZ : ∀ w, (zeroValue e).run P w = .ok z w) (hz0 : Di z = enc x0) (hU : P.underlying t = some (.slice e)) (hE : Dk enc k) (ho : Bg enc k e a c B xs)
    (hB : ∀ p ∈ B, p ∈ L) (hlo : xs.length ≤ lo) (hc : lo + dn ≤ c) (hx : ev E x = some (.slice (Kl a k lo c) dn dc) := by rfl) :
    Vp P N D b0 Mk L E (.call { callee := .builtin .clear, args := #[x], argTypes := #[t] }) ty B An (fun _ => .value (.tuple #[])) (fun h => h) (fun h => Bg enc k e a c h xs) := by
  intro ac w ha hw;obtain ⟨i, hi, rfl, rfl, hz⟩ := hT.ex;have hzs := hT.zs;have Iz : ∀ (v' : Value) (w' : World), (Builtin.clear_ #[t] ty #[.slice (Kl a i.size lo c) dn dc]).run P w = .ok v' w' →
      (execOp ac.eval (Gk (.call { callee := .builtin .clear, args := #[x], argTypes := #[t] }) ty)).run P w = .ok (.value v') w' := fun v' w' h => by
    simp [Gk, execOp, resolve, invoke, builtin, ha.eval hx, h]
  by_cases hq0 : dn = 0
  · subst hq0;refine ⟨B, w, Iz _ _ ?_, Tr.refl (fun p hp => hw.own p (hB p hp)) ho.nd, ho⟩;rcases Kl a i.size lo c with _ | ad <;> simp [Builtin.clear_, run_underlying hU]
  · rcases ho with ⟨rfl, rfl, rfl⟩ | ⟨r, cur, fz, rfl, rfl, hfz, h1, h2, h3⟩
    · omega
    · have hh : w.heap[r]? = some (.cells cur e fz) := hw.own _ (hB _ List.mem_cons_self);have b43 : lo * i.size + dn * i.size ≤ c * i.size := by rw [← Nat.add_mul]; exact Nat.mul_le_mul_right _ hc
      have hzl : (Builtin.zeroCells z.cells dn).toList.length = dn * i.size := by rw [cF, hzs]
      have uh : ∀ v ∈ (Builtin.zeroCells z.cells dn).toList, v.oneCell' = true := fun v hv => by
        rw [Th hE hz0 dn] at hv;exact Td hE _ v hv
      have hst := Gi P r (lo * i.size) e fz (Builtin.zeroCells z.cells dn).toList 0 cur w hh hfz (by rw [hzl]; omega) uh;have hoff : Kl (some (⟨r, 0, none⟩ : Addr)) i.size lo c = some ⟨r, lo * i.size, none⟩ := by
        simp only [Kl]; rw [if_neg z4, Option.map_some, Bh, Nat.zero_add]
      refine ⟨[(r, .cells (cur.toList.take (lo * i.size + 0) ++ (Builtin.zeroCells z.cells dn).toList ++ cur.toList.drop (lo * i.size + 0 + (Builtin.zeroCells z.cells dn).toList.length)).toArray e fz)], _, Iz _ _ ?_, dT hh, Bg.fullF ?_ h1 ?_ ?_⟩
      · rw [hoff];cases dn with
        | zero => exact absurd rfl hq0
        | succ dn => simp [Builtin.clear_, run_underlying hU, hZ, hst]
      · refine hfz.imp id fun h => Nat.le_trans (Nat.le_of_eq ?_) h
        simp only [List.size_toArray, List.length_append, List.length_take, List.length_drop, Array.length_toList, hzl, h2]; omega
      · simp only [List.size_toArray, List.length_append, List.length_take, List.length_drop, Array.length_toList, hzl, h2]; omega
      · have hm : xs.length * i.size ≤ lo * i.size := Nat.mul_le_mul_right _ hlo;simp only [List.toList_toArray, Nat.add_zero];have hm2 : xs.length * i.size ≤ (List.take (lo * i.size) cur.toList).length := by
          rw [List.length_take];have : cur.toList.length = c * i.size := by simpa using h2
          omega
        rw [List.append_assoc, List.take_append_of_le_length hm2, List.take_take, Nat.min_eq_left hm, h3]
theorem bD {α : Type} {enc : α → List Value} {k by_ : Nat} {t e : TypeId} {z : Value} {x : Operand} {a : Option Addr} {c dn dc : Nat} {B R : An} {xs : List α} {l : List Oper} (lo : Nat) {x0 : α} (hT : Ty P e k by_ z) (hZ : ∀ w, (zeroValue e).run P w = .ok z w) (hz0 : Di z = enc x0) (hU : P.underlying t = some (.slice e)) (hE : Dk enc k) (ho : Bg enc k e a c B xs) (hL : List.Perm L (B ++ R))
    (hlo : xs.length ≤ lo) (hc : lo + dn ≤ c) (hx : ev E x = some (.slice (Kl a k lo c) dn dc) := by rfl) 
    (kk : ∀ B2, Bg enc k e a c B2 xs → JL P rd b0 Mk N D ops (B2 ++ R) E l T) :
    JL P rd b0 Mk N D ops L E ({ dst := none, op := .call { callee := .builtin .clear, args := #[x], argTypes := #[t] }, type := ty, pos := pos, after := after, guard := none } :: l) T := by
  intro ac w ha hw;unfold Oq;rw [if_pos (by rfl)];obtain ⟨h, w', h1, h2, h3⟩ := rC (ty := ty) lo hT hZ hz0 hU hE ho (fun p hp => hL.mem_iff.2 (List.mem_append_left _ hp)) hlo hc hx ac w ha hw;have hE2 : Dg N D E (ac.put none (.tuple #[])) := ha;exact De (o := { dst := none, op := .call { callee := .builtin .clear, args := #[x], argTypes := #[t] }, type := ty, pos := pos, after := after, guard := none }) rfl N4 (kk h h3 _ _ hE2 ((hw.perm hL).tr h2))
theorem rE {α : Type} {enc : α → List Value} {k by_ : Nat} {t e : TypeId} {z : Value} {x y : Operand} {a a' : Option Addr} {c c' n m : Nat} {B : An} {xs ys : List α} (hT : Ty P e k by_ z) (hU : P.underlying t = some (.slice e)) (hE : Dk enc k) (ho : Bg enc k e a c B xs)
    (hs : Bv b0 Mk L enc k a' ys) (hB : ∀ p ∈ B, p ∈ L) (hn : xs.length = n) (hm : ys.length = m) (hroom : n + m ≤ c) (hx : ev E x = some (.slice a n c) := by rfl) (hy : ev E y = some (.slice a' m c') := by rfl) :
    Vp P N D b0 Mk L E (.call { callee := .builtin .append, args := #[x, y], argTypes := #[t, t] }) ty B An (fun _ => .value (.slice a (n + m) c)) (fun q => q) (fun q => Bg enc k e a c q (xs ++ ys)) := by
  intro ac w ha hw;obtain ⟨i, hi, rfl, rfl, hz⟩ := hT.ex;subst hn hm;have Iz : ∀ (v' : Value) (w' : World), (Builtin.append_ #[t, t] ty #[.slice a xs.length c, .slice a' ys.length c']).run P w = .ok v' w' →
      (execOp ac.eval (Gk (.call { callee := .builtin .append, args := #[x, y], argTypes := #[t, t] }) ty)).run P w = .ok (.value v') w' := fun v' w' h => by
    simp [Gk, execOp, resolve, invoke, builtin, ha.eval hx, ha.eval hy, h]
  have hsl := hs w hw;by_cases hy0 : ys = []
  · subst hy0;have hrun : (Builtin.append_ #[t, t] ty #[.slice a xs.length c, .slice a' 0 c']).run P w = .ok (.slice a xs.length c) w := by
      have hf : (Builtin.firstCells i.size 0 (.slice a' 0 c')).run P w = .ok #[] w := by
        cases a' with
        | none => simp [Builtin.firstCells]
        | some q => simp [Builtin.firstCells, loadCells, loadCellsFrom]
      have hle' : xs.length ≤ c := by simpa using hroom
      rcases a with _ | ad
      · simp [Builtin.append_, run_underlying hU, sizeOf, typeInfo, hi, Builtin.lenOf, hf, hle']
      · simp [Builtin.append_, run_underlying hU, sizeOf, typeInfo, hi, Builtin.lenOf, hf, hle', storeCells]
    exact ⟨B, w, Iz _ _ (by simpa using hrun), Tr.refl (fun p hp => hw.own p (hB p hp)) ho.nd, by simpa using ho⟩
  · have hpos : 0 < ys.length := List.length_pos_iff.2 hy0;obtain ⟨y0, hy0'⟩ : ∃ y0, ys[0]? = some y0 := ⟨_, List.getElem?_eq_getElem hpos⟩
    obtain ⟨b1, off1, rfl, _, _⟩ := hsl 0 y0 hy0';have hnews := Sl.cells hE hsl ys.length (Nat.le_refl _);rw [List.take_length] at hnews;have hnl : (Ei enc ys).length = ys.length * i.size := Cp hE ys;rcases ho with ⟨rfl, rfl, rfl⟩ | ⟨r, cur, fz, rfl, rfl, hfz, h1, h2, h3⟩
    · omega
    · have hh : w.heap[r]? = some (.cells cur e fz) := hw.own _ (hB _ List.mem_cons_self);have hr := Qj (P := P) (w := w) (ty := ty) t e i hU hi r xs.length c cur fz hh hfz ⟨b1, off1, none⟩ ys.length c' (Ei enc ys) hnl hnews (Td hE ys) hroom (by rw [hnl, h2, ← Nat.add_mul]; exact Nat.mul_le_mul_right _ hroom);have hle : xs.length * i.size + ys.length * i.size ≤ c * i.size := by rw [← Nat.add_mul]; exact Nat.mul_le_mul_right _ hroom
      refine ⟨[(r, _)], _, Iz _ _ hr, dT hh, Bg.fullF ?_ (by simpa using hroom) ?_ ?_⟩
      · refine hfz.imp id fun h => Nat.le_trans (Nat.le_of_eq ?_) h
        simp only [List.size_toArray, List.length_append, List.length_take, List.length_drop, Array.length_toList, hnl, h2];omega
      · simp only [List.size_toArray, List.length_append, List.length_take, List.length_drop, Array.length_toList, hnl, h2];omega
      · have b44 : xs.length * i.size ≤ c * i.size := Nat.mul_le_mul_right _ h1;have e1 : (cur.toList.take (xs.length * i.size)).length = xs.length * i.size := by simp [h2, Nat.min_eq_left b44]
        simp only [List.toList_toArray, List.length_append, Nat.add_mul];rw [List.take_left' (by rw [List.length_append, e1, hnl]), h3, Gr]
theorem bE {α : Type} {enc : α → List Value} {kk by_ : Nat} {t e : TypeId} {z : Value} {x y : Operand} {a a' : Option Addr} {c c' n m : Nat} {B R : An} {xs ys : List α} {l : List (Bool × Oper)} (zs : List α) (hz : xs ++ ys = zs) (hT : Ty P e kk by_ z) (hU : P.underlying t = some (.slice e)) (hE : Dk enc kk) (ho : Bg enc kk e a c B xs) (hV : List.Perm V (B ++ R))
    (hs : Bv b0 Mk (V ++ L) enc kk a' ys) (hroom : n + m ≤ c) (hx : ev E x = some (.slice a n c) := by rfl) (hy : ev E y = some (.slice a' m c') := by rfl) (hn : xs.length = n := by rfl) (hm : ys.length = m := by rfl) (hd : Nat.blt d N = true := by rfl) (hzl : n + m = zs.length := by simp)
    (k : ∀ B2, Bg enc kk e a c B2 zs → JD P rd b0 Mk N D ops L (B2 ++ R) ((d, .slice a zs.length c) :: E) l T) :
    JD P rd b0 Mk N D ops L V E ((false, { dst := some d, op := .call { callee := .builtin .append, args := #[x, y], argTypes := #[t, t] }, type := ty, pos := pos, after := after, guard := none }) :: l) T :=
  V1 hV (rE hT hU hE ho hs (fun p hp => List.mem_append_left _ (hV.mem_iff.2 (List.mem_append_left _ hp))) hn hm hroom hx hy) rfl hd (fun q hq => by rw [hzl]; exact k q (hz ▸ hq))
theorem wM {α : Type} {enc : α → List Value} {k by_ : Nat} {t tn e : TypeId} {z : Value} {x0 : α} {x y : Operand} {a : Option Addr} {c n m : Nat} {i : Int} {xs : List α} {kn : IntKind} (hT : Ty P e k by_ z) (hU : P.underlying t = some (.slice e)) (hN : P.underlying tn = some (.int kn)) (hE : Dk enc k) (hz : Di z = enc x0)
    (hs : Bv b0 Mk L enc k a xs) (hn : xs.length = n) (h0 : 0 < m) (hg : c < n + m) (hb : 2 * (n + m) * by_ ≤ 281474976710656) (hb2 : n + m ≤ 4611686018427387904) (hi : i = (m : Int)) (hx : ev E x = some (.slice a n c) := by rfl) (hy : ev E y = some (.int .i64 i) := by rfl) :
    Vp P N D b0 Mk L E (.call { callee := .builtin .append, args := #[x, y], argTypes := #[t, tn] }) ty [] (Option Addr × Nat × An) (fun q => .value (.slice q.1 (n + m) q.2.1)) (fun q => q.2.2) (fun q => Bg enc k e q.1 q.2.1 q.2.2 (xs ++ List.replicate m x0)) := by
  intro ac w ha hw;obtain ⟨i, hi, rfl, rfl, hzz⟩ := hT.ex;subst hn
  rename_i hi'
  have hzs := hT.zs;have hk := hE.pos;subst hi';have Iz : ∀ (v' : Value) (w' : World), (Builtin.append_ #[t, tn] ty #[.slice a xs.length c, .int .i64 m]).run P w = .ok v' w' →
      (execOp ac.eval (Gk (.call { callee := .builtin .append, args := #[x, y], argTypes := #[t, tn] }) ty)).run P w = .ok (.value v') w' := fun v' w' h => by
    simp [Gk, execOp, resolve, invoke, builtin, ha.eval hx, ha.eval hy, h]
  have hsl := hs w hw;have hnx : Builtin.nextslicecap (xs.length + m) c ≤ 2 * (xs.length + m) := nextslicecap_le hg;have holds : (Builtin.firstCells i.size xs.length (.slice a xs.length c)).run P w.drew = .ok (Ei enc xs).toArray w.drew := by
    by_cases hx0 : xs = []
    · subst hx0;rcases a with _ | ad <;> simp [Builtin.firstCells, loadCells, loadCellsFrom, Ei]
    · obtain ⟨y0, hy0⟩ : ∃ y0, xs[0]? = some y0 := ⟨_, List.getElem?_eq_getElem (List.length_pos_iff.2 hx0)⟩
      obtain ⟨b1, o1, rfl, _, _⟩ := hsl 0 y0 hy0;have h5 := Sl.cells hE hsl xs.length (Nat.le_refl _);rw [List.take_length] at h5;have : ∀ j v, (Ei enc xs)[j]? = some v → w.drew.cell? ((⟨b1, o1, none⟩ : Addr).add j) = some v := fun j v hj => h5 j v hj
      exact run_firstCells_some (P := P) w.drew i.size xs.length _ xs.length c (Ei enc xs) (Cp hE xs) this
  have hbm : m * i.bytes ≤ 281474976710656 := by
    have : m * i.bytes ≤ 2 * (xs.length + m) * i.bytes := Nat.mul_le_mul_right _ z4;omega
  have hr := Lib.run_append_grow_zeros (P := P) w t tn ty e i z .i64 kn hU hN hi hzz a xs.length c (Ei enc xs) holds m h0 hk hg z4 hbm (Nat.le_trans (Nat.mul_le_mul_right _ hnx) hb);refine ⟨(some ⟨w.heap.size, 0, none⟩, grownCap w (xs.length + m) c e, [(w.heap.size, _)]), _, Iz _ _ hr, cM (Te (w := w.drew) _), ?_⟩
  · have hge := grownCap_ge w (xs.length + m) c e;refine Bg.full hE (by simpa using hge) ?_ ?_
    · rw [Array.size_append, Array.size_append, List.size_toArray, Cp hE, size_zeroCells, size_zeroCells, hzs, ← Nat.add_mul, ← Nat.add_mul];dsimp only;congr 1;omega
    · simp only [Array.toList_append, List.toList_toArray];rw [Th hE hz m, List.take_left' (by rw [List.length_append, Cp hE, Cp hE, List.length_append, Nat.add_mul]), Gr]
theorem dZ {α : Type} {enc : α → List Value} {kk by_ : Nat} {t tn e : TypeId} {z : Value} {x0 : α} {x y : Operand} {a : Option Addr} {c n m : Nat} {i : Int} {xs : List α} {kn : IntKind} {l : List Oper} (hT : Ty P e kk by_ z) (hU : P.underlying t = some (.slice e)) (hN : P.underlying tn = some (.int kn)) (hE : Dk enc kk) (hz : Di z = enc x0)
    (hs : Bv b0 Mk L enc kk a xs) (hn : xs.length = n) (h0 : 0 < m) (hg : c < n + m) (hb : 2 * (n + m) * by_ ≤ 281474976710656 ∧ n + m ≤ 4611686018427387904) (hi : i = (m : Int)) (hx : ev E x = some (.slice a n c) := by rfl) (hy : ev E y = some (.int .i64 i) := by rfl) (hd : Nat.blt d N = true := by rfl)
    (k : ∀ a2 c2 B2, Bg enc kk e a2 c2 B2 (xs ++ List.replicate m x0) → JL P rd b0 Mk N D ops (B2 ++ L) ((d, .slice a2 (xs ++ List.replicate m x0).length c2) :: E) l T) :
    JL P rd b0 Mk N D ops L E ({ dst := some d, op := .call { callee := .builtin .append, args := #[x, y], argTypes := #[t, tn] }, type := ty, pos := pos, after := after, guard := none } :: l) T :=
  AK8 (List.Perm.refl _) (wM hT hU hN hE hz hs hn h0 hg hb.1 hb.2 hi hx hy) rfl hd (fun q hq => by
    have := k q.1 q.2.1 q.2.2 hq
    rwa [List.length_append, List.length_replicate, hn] at this)
end
end Go.Proofs.YtopjaeoklkpcpaaGreatDoor.Jd

namespace Go.Proofs.YtopjaeoklkpcpaaGreatDoor.Jd
open Go.Proofs.Tryz
open Go.RowKit (Below)
set_option linter.unusedVariables false
set_option linter.unusedSimpArgs false
theorem lb {p : Prop} (h : p := by first | omega | (simp only [List.length_append, List.length_take, List.length_drop, List.length_set, List.length_replicate, List.length_cons, List.length_nil, List.length_map, Dc, Db]; omega) | (simp only [List.length_append, List.length_take, List.length_drop, List.length_set, List.length_replicate, List.length_cons, List.length_nil, List.length_map, Dc, Db] at *; omega)) : p := h
theorem ix {p : Prop} (h : p := by first | omega | (simp only [List.length_set]; omega) | (simp only [List.length_append, List.length_take, List.length_drop, List.length_set, List.length_replicate, List.length_cons, List.length_nil, List.length_map, Dc, Db]; omega)) : p := h
theorem se {E E' : Ef} (h : Je E E' := by repeat (first | exact Je.nil | refine Je.cons rfl ?_)) : Je E E' := h
theorem me {α : Type} {p : α} {l : List α} (h : p ∈ l := by repeat (first | exact List.mem_cons_self | apply List.mem_cons_of_mem | apply List.mem_append_right)) : p ∈ l := h
theorem q0 {l : An} : List.Perm l l := List.Perm.refl _
theorem qa {x a : Nat × Obj} {t r : An} (p : List.Perm t (a :: r)) : List.Perm (x :: t) (a :: x :: r) := (List.Perm.cons _ p).trans (List.Perm.swap _ _ _)
theorem qb {x : Nat × Obj} {t r S : An} (p : List.Perm t (S ++ r)) : List.Perm (x :: t) (S ++ (x :: r)) := (List.Perm.cons _ p).trans List.perm_middle.symm
theorem qc {a : Nat × Obj} {t r S : An} (p : List.Perm t (a :: r)) : List.Perm (S ++ t) (a :: (S ++ r)) := (List.Perm.append_left _ p).trans List.perm_middle
theorem qd {t r S U : An} (p : List.Perm t (U ++ r)) : List.Perm (S ++ t) (U ++ (S ++ r)) := (List.Perm.append_left _ p).trans (C7 _ _ _)
section
variable {P : Program} {rd : Option Nat} {b0 : World} {Mk : List Nat} {N : Nat} {D : List Deferred} {ops : Array Oper} {L V : An} {E : Ef} {T : Act → World → Prop}
variable {op : Op} {ty : TypeId} {pos : String} {after : Array Edge} {d : Nat}
theorem Pa {κ : Type} [DecidableEq κ] {kd : TypeDesc} {enc : κ → Value} {t kt et : TypeId} {x y : Operand} {r ck : Nat} {es : Array MapEntry} {l : List (κ × Value)} {z v : Value} (q : κ) (hk : Qk kd enc) (hU : ∀ w, (underlying t).run P w = .ok (.map kt et) w) (hK : ∀ w, (underlying kt).run P w = .ok kd w)
    (hz : ∀ w, (zeroValue et).run P w = .ok z w) (hes : Nx enc es l) (hv : (Ox l q).getD z = v) (hx : ev E x = some (.map (some r)) := by rfl) (hy : ev E y = some (enc q) := by rfl)
    (hm : (r, Obj.map es ck) ∈ L := by repeat (first | exact List.mem_cons_self | apply List.mem_cons_of_mem | apply List.mem_append_right)) :
    Dm P N D b0 Mk L E (.lookup t x y false) ty v := hv ▸ nL q hk hU hK hz hes hx hy hm
theorem AX4 {κ : Type} [DecidableEq κ] {kd : TypeDesc} {enc : κ → Value} {t kt et : TypeId} {x y u : Operand} {r ck : Nat} {es : Array MapEntry} {l : List (κ × Value)} {v : Value} (q : κ) (hk : Qk kd enc) (hU : ∀ w, (underlying t).run P w = .ok (.map kt et) w) (hK : ∀ w, (underlying kt).run P w = .ok kd w)
    (hes : Nx enc es l) (hnew : ∀ p ∈ l, p.1 ≠ q) (hx : ev E x = some (.map (some r)) := by rfl) (hy : ev E y = some (enc q) := by rfl) (hu : ev E u = some v := by rfl)
    (hm : (r, Obj.map es ck) ∈ L := by repeat (first | exact List.mem_cons_self | apply List.mem_cons_of_mem | apply List.mem_append_right)) :
    Vp P N D b0 Mk L E (.insert t x y u) ty [(r, .map es ck)] (Array MapEntry × Nat) (fun _ => .skip) (fun x => [(r, .map x.1 x.2)]) (fun x => Nx enc x.1 (l ++ [(q, v)])) := fun a w ha hw => by
  obtain ⟨x, w', h1, h2, h3⟩ := C5 (ty := ty) q hk hU hK hes hnew hx hy hu hm a w ha hw;exact ⟨x, w', h1, h2, h3⟩
theorem Ti {κ : Type} [DecidableEq κ] {kd : TypeDesc} {enc : κ → Value} {t kt et : TypeId} {x y u : Operand} {r ck : Nat} {es : Array MapEntry} {ml : List (κ × Value)} {v : Value} {R : An} {l : List Oper} (q : κ) (hk : Qk kd enc) (hU : ∀ w, (underlying t).run P w = .ok (.map kt et) w) (hK : ∀ w, (underlying kt).run P w = .ok kd w)
    (hes : Nx enc es ml) (hnew : ∀ p ∈ ml, p.1 ≠ q) (hL : List.Perm L ((r, Obj.map es ck) :: R)) (hx : ev E x = some (.map (some r)) := by rfl) (hy : ev E y = some (enc q) := by rfl) (hu : ev E u = some v := by rfl)
    (k : ∀ es2 ck2, Nx enc es2 (ml ++ [(q, v)]) → JL P rd b0 Mk N D ops ((r, Obj.map es2 ck2) :: R) E l T) :
    JL P rd b0 Mk N D ops L E ({ dst := none, op := .insert t x y u, type := ty, pos := pos, after := after, guard := none } :: l) T :=
  C2 (H := [(r, Obj.map es ck)]) hL (AX4 q hk hU hK hes hnew hx hy hu (hL.mem_iff.2 List.mem_cons_self)) rfl (fun x hq => k x.1 x.2 hq)
theorem E4 {l : List Oper} {n f' : Nat} {listed : Array Bool} {i : Nat} {f : FuncId} {args : List Value} {R : World → Ending → World → Prop} (hi : l[i]? = some { dst := some d, op := op, type := ty, pos := pos, after := after, guard := none }) (hc : Ot P N D b0 Mk L E op ty f args)
    (h : ∀ w, SH b0 Mk L w → Calls P f args.toArray w (R w)) (hn : Bi op = true := by rfl) (hd : Nat.blt d N = true := by rfl)
    (k : ∀ w e w', SH b0 Mk L w → R w e w' → ∃ v B V', e = .returned v ∧ Dj w w' B ∧ V' = B ++ V ∧ JG P rd b0 Mk N D l n f' (listed.setIfInBounds i true) L V' ((d, v) :: E) T) : JO P rd b0 Mk N D l n f' listed L V E T i := by
  intro hg inv a w ha hw;have hi' : l.toArray[i]? = some { dst := some d, op := op, type := ty, pos := pos, after := after, guard := none } := by simpa using hi
  unfold wpO;simp only [hi'];rw [if_pos (by rfl)];refine Eh (Bj hn) z59 ((h w hw.right).mono fun e w' he => ?_);obtain ⟨v, B, V', rfl, h2, rfl, h3⟩ := k w e w' hw.right he;have h4 : SH b0 Mk ((B ++ V) ++ L) w' := by rw [List.append_assoc]; exact hw.fresh h2
  exact ⟨_, rfl, SH b0 Mk L, fun y hy => hy, h4.right, h3 hg inv _ _ (ha.put hd _) h4⟩
theorem BB1 {l : List Oper} {n f' : Nat} {listed : Array Bool} {i : Nat} {f : FuncId} {args : List Value} {R : World → Ending → World → Prop} (hi : l[i]? = some { dst := some d, op := op, type := ty, pos := pos, after := after, guard := none }) (hc : Ot P N D b0 Mk L E op ty f args)
    (h : ∀ w, SH b0 Mk (V ++ L) w → Calls P f args.toArray w (R w)) (hn : Bi op = true := by rfl) (hd : Nat.blt d N = true := by rfl)
    (k : ∀ w e w', SH b0 Mk (V ++ L) w → R w e w' → ∃ v V', e = .returned v ∧ SH b0 Mk (V' ++ L) w' ∧ JG P rd b0 Mk N D l n f' (listed.setIfInBounds i true) L V' ((d, v) :: E) T) : JO P rd b0 Mk N D l n f' listed L V E T i := by
  intro hg inv a w ha hw;have hi' : l.toArray[i]? = some { dst := some d, op := op, type := ty, pos := pos, after := after, guard := none } := by simpa using hi
  unfold wpO;simp only [hi'];rw [if_pos (by rfl)];refine Eh (Bj hn) z59 ((h w hw).mono fun e w' he => ?_);obtain ⟨v, V', rfl, h2, h3⟩ := k w e w' hw he;exact ⟨_, rfl, SH b0 Mk L, fun y hy => hy, h2.right, h3 hg inv _ _ (ha.put hd _) h2⟩
theorem AX5 {l : List Oper} {n f' : Nat} {listed : Array Bool} {i : Nat} {H R : An} {X : Type} {v : X → Value} {H' : X → An} {Pr : X → Prop} (hi : l[i]? = some { dst := some d, op := op, type := ty, pos := pos, after := after, guard := none })
    (hV : List.Perm V (H ++ R)) (h : Vp P N D b0 Mk (V ++ L) E op ty H X (fun x => .value (v x)) H' Pr) (hn : Bi op = true := by rfl) (hd : Nat.blt d N = true := by rfl)
    (k : ∀ x, Pr x → JG P rd b0 Mk N D l n f' (listed.setIfInBounds i true) L (H' x ++ R) ((d, v x) :: E) T) : JO P rd b0 Mk N D l n f' listed L V E T i := by
  intro hg inv a w ha hw;have hi' : l.toArray[i]? = some { dst := some d, op := op, type := ty, pos := pos, after := after, guard := none } := by simpa using hi
  unfold wpO;simp only [hi'];rw [if_pos (by rfl)];obtain ⟨x, w', h1, h2, h3⟩ := h a w ha hw;have h4 : SH b0 Mk ((H' x ++ R) ++ L) w' := by
    rw [List.append_assoc];exact (hw.perm (by rw [← List.append_assoc]; exact List.Perm.append_right _ hV)).tr h2
  exact De (Bj hn) N4 ⟨SH b0 Mk L, fun y hy => hy, h4.right, k x h3 hg inv _ _ (ha.put hd _) h4⟩
theorem Dw {α : Type} {enc : α → List Value} {kk by_ : Nat} {t e : TypeId} {z : Value} {x y : Operand} {a a' : Option Addr} {c c' n m : Nat} {B R : An} {xs ys : List α} {l : List Oper} {n' f' : Nat} {listed : Array Bool} {i : Nat} (hi : l[i]? = some { dst := some d, op := .call { callee := .builtin .append, args := #[x, y], argTypes := #[t, t] }, type := ty, pos := pos, after := after, guard := none }) (zs : List α) (hz : xs ++ ys = zs) (hT : Ty P e kk by_ z) (hU : P.underlying t = some (.slice e)) (hE : Dk enc kk) (ho : Bg enc kk e a c B xs) (hV : List.Perm V (B ++ R))
    (hs : Bv b0 Mk (V ++ L) enc kk a' ys) (hb : 2 * (n + m) * by_ ≤ 281474976710656 ∧ n + m ≤ 4611686018427387904) (hx : ev E x = some (.slice a n c) := by rfl) (hy : ev E y = some (.slice a' m c') := by rfl) (hn : xs.length = n := by rfl) (hm : ys.length = m := by rfl) (hd : Nat.blt d N = true := by rfl) (hzl : n + m = zs.length := by simp)
    (k : ∀ a2 c2 B2, Bg enc kk e a2 c2 B2 zs → JG P rd b0 Mk N D l n' f' (listed.setIfInBounds i true) L (B2 ++ R) ((d, .slice a2 zs.length c2) :: E) T) : JO P rd b0 Mk N D l n' f' listed L V E T i :=
  AX5 hi hV (Yl hT hU hE ho hs (fun p hp => List.mem_append_left _ (hV.mem_iff.2 (List.mem_append_left _ hp))) hn hm hb.1 hb.2 hx hy) rfl hd (fun q hq => by rw [hzl]; exact k q.1 q.2.1 q.2.2 (hz ▸ hq))
end
theorem Kc {κ : Type} [DecidableEq κ] {k q : κ} {v : Value} {l : List (κ × Value)} (h : k = q) : Ox ((k, v) :: l) q = some v := by simp [Ox, h]
theorem Cf {κ : Type} [DecidableEq κ] {k q : κ} {v : Value} {l : List (κ × Value)} (h : ¬ k = q) : Ox ((k, v) :: l) q = Ox l q := by simp [Ox, h]
def Ms {α : Type} (xs : List α) (i : Nat) (v : α) : List α := xs.take i ++ v :: xs.drop i
theorem Gt {α : Type} {xs : List α} {i : Nat} {v : α} (h : i ≤ xs.length) : (Ms xs i v).length = xs.length + 1 := by
  simp [Ms]; omega
theorem E5 {α : Type} (xs : List α) (v : α) : xs ++ [v] = Ms xs xs.length v := by simp [Ms]
def delL {α : Type} (xs : List α) (i j : Nat) : List α := xs.take i ++ xs.drop j
theorem Hj {α : Type} {xs : List α} {i j : Nat} (h : i ≤ j) (hj : j ≤ xs.length) : (delL xs i j).length = xs.length - (j - i) := by
  simp [delL]; omega
end Go.Proofs.YtopjaeoklkpcpaaGreatDoor.Jd

namespace Go.Proofs.YtopjaeoklkpcpaaGreatDoor.Jd
open Go.Proofs.Tryz
open Go.RowKit (Below)
set_option linter.unusedVariables false
set_option linter.unusedSimpArgs false
def kV {α β : Type} (D : World → α → β → Prop) : Prop := ∀ w w' x t, (∀ p v, w.cell? p = some v → w'.cell? p = some v) → D w x t → D w' x t
def Wc (w : World) {α β : Type} [Inhabited α] [Inhabited β] (enc : α × β → List Value) (k : Nat) (D : World → α → β → Prop) (a : Option Addr) (xs : List α) (ts : List β) : Prop :=
  ts.length = xs.length ∧ Sl w enc k a (List.zip xs ts) ∧ ∀ i, i < xs.length → D w (xs.getD i default) (ts.getD i default)
def Ff (b0 : World) (Mk : List Nat) (L : An) {α β : Type} [Inhabited α] [Inhabited β] (enc : α × β → List Value) (k : Nat) (D : World → α → β → Prop) (a : Option Addr) (xs : List α) (ts : List β) : Prop :=
  ts.length = xs.length ∧ ∀ w, SH b0 Mk L w → Wc w enc k D a xs ts
def Tj (b0 : World) (B : An) {α β : Type} [Inhabited α] [Inhabited β] (enc : α × β → List Value) (k : Nat) (D : World → α → β → Prop) (a : Option Addr) (xs : List α) (ts : List β) : Prop :=
  ts.length = xs.length ∧ ∀ w, kI b0 w → (∀ p ∈ B, w.heap[p.1]? = some p.2) → Wc w enc k D a xs ts
def Dh (B : An) {α β : Type} [Inhabited α] [Inhabited β] (enc : α × β → List Value) (k : Nat) (D : World → α → β → Prop) (a : Option Addr) (xs : List α) (ts : List β) : Prop :=
  ts.length = xs.length ∧ ∀ w : World, (∀ p ∈ B, w.heap[p.1]? = some p.2) → Wc w enc k D a xs ts
def Bk (B : An) {α β : Type} [Inhabited α] [Inhabited β] (D : World → α → β → Prop) (xs : List α) (ts : List β) : Prop :=
  ts.length = xs.length ∧ ∀ w : World, (∀ p ∈ B, w.heap[p.1]? = some p.2) → ∀ i, i < xs.length → D w (xs.getD i default) (ts.getD i default)
theorem wN {w w' : World} (he : kI w w') : ∀ p v, w.cell? p = some v → w'.cell? p = some v := fun p v h => Qz h (he.block _ (World.block_lt_of_cell? w _ h))
theorem Ed {α β : Type} [Inhabited α] [Inhabited β] {xs : List α} {ts : List β} {m : Nat} (hl : ts.length = xs.length) (h : m < xs.length) : (List.zip xs ts)[m]? = some (xs.getD m default, ts.getD m default) := by
  rw [List.getD_eq_getElem?_getD, List.getD_eq_getElem?_getD, List.getElem?_eq_getElem h, List.getElem?_eq_getElem (show m < ts.length by omega), List.getElem?_eq_getElem (by rw [List.length_zip]; omega)];simp
theorem Aw {α β : Type} {xs : List α} {ts : List β} (hl : ts.length = xs.length) : (List.zip xs ts).length = xs.length := by rw [List.length_zip]; omega
theorem Rc {α : Type} [Inhabited α] {xs : List α} {i n : Nat} (h : i < n) : (xs.take n).getD i default = xs.getD i default := by
  rw [List.getD_eq_getElem?_getD, List.getD_eq_getElem?_getD, List.getElem?_take, if_pos h]
theorem Rd {α : Type} [Inhabited α] {xs : List α} {i n : Nat} : (xs.drop n).getD i default = xs.getD (n + i) default := by
  rw [List.getD_eq_getElem?_getD, List.getD_eq_getElem?_getD, List.getElem?_drop]
theorem Yu {α : Type} [Inhabited α] {xs ys : List α} {i : Nat} : (xs ++ ys).getD i default = if i < xs.length then xs.getD i default else ys.getD (i - xs.length) default := by
  simp only [List.getD_eq_getElem?_getD];by_cases h : i < xs.length
  · rw [if_pos h, List.getElem?_append_left h]
  · rw [if_neg h, List.getElem?_append_right z4]
section
variable {α β : Type} [Inhabited α] [Inhabited β] {enc : α × β → List Value} {k : Nat} {D : World → α → β → Prop} {a : Option Addr} {xs : List α} {ts : List β} {b0 : World} {Mk : List Nat} {B L : An}
theorem Wc.ext {w w' : World} (hD : kV D) (h : Wc w enc k D a xs ts) (he : kI w w') : Wc w' enc k D a xs ts := ⟨h.1, h.2.1.ext he, fun i hi => hD _ _ _ _ (wN he) (h.2.2 i hi)⟩
theorem Ff.of_base (hD : kV D) (h : Wc b0 enc k D a xs ts) : Ff b0 [] L enc k D a xs ts := ⟨h.1, fun _ hw => h.ext hD hw.ext_out⟩
theorem Tj.base (hD : kV D) (h : Wc b0 enc k D a xs ts) : Tj b0 B enc k D a xs ts := ⟨h.1, fun _ he _ => h.ext hD he⟩
theorem Ff.nil : Ff b0 Mk L enc k D a ([] : List α) ([] : List β) := ⟨rfl, fun _ _ => ⟨rfl, Sl.nil, fun i hi => by simp at hi⟩⟩
theorem Tj.nil : Tj b0 B enc k D a ([] : List α) ([] : List β) := ⟨rfl, fun _ _ _ => ⟨rfl, Sl.nil, fun i hi => by simp at hi⟩⟩
theorem Dh.nil : Dh B enc k D a ([] : List α) ([] : List β) := ⟨rfl, fun _ _ => ⟨rfl, Sl.nil, fun i hi => by simp at hi⟩⟩
theorem Tj.j (h : Tj b0 B enc k D a xs ts) (hB : ∀ p ∈ B, p ∈ L := by intro p hp; repeat (first | exact hp | exact List.mem_append_left _ hp | apply List.mem_append_right | apply List.mem_cons_of_mem)) : Ff b0 [] L enc k D a xs ts := ⟨h.1, fun w hw => h.2 w hw.ext_out fun p hp => hw.own p (hB p hp)⟩
theorem Dh.j (h : Dh B enc k D a xs ts) (hB : ∀ p ∈ B, p ∈ L := by intro p hp; repeat (first | exact hp | exact List.mem_append_left _ hp | apply List.mem_append_right | apply List.mem_cons_of_mem)) : Ff b0 Mk L enc k D a xs ts := ⟨h.1, fun w hw => h.2 w fun p hp => hw.own p (hB p hp)⟩
theorem Dh.mono {B' : An} (h : Dh B enc k D a xs ts) (hB : ∀ p ∈ B, p ∈ B') : Dh B' enc k D a xs ts := ⟨h.1, fun w hw => h.2 w fun p hp => hw p (hB p hp)⟩
theorem Tj.mono {B' : An} (h : Tj b0 B enc k D a xs ts) (hB : ∀ p ∈ B, p ∈ B' := by intro p hp; repeat (first | exact hp | exact List.mem_append_left _ hp | apply List.mem_append_right | apply List.mem_cons_of_mem)) : Tj b0 B' enc k D a xs ts := ⟨h.1, fun w he hw => h.2 w he fun p hp => hw p (hB p hp)⟩
theorem Ff.sl (h : Ff b0 Mk L enc k D a xs ts) : Bv b0 Mk L enc k a (List.zip xs ts) := fun w hw => (h.2 w hw).2.1
theorem Ff.at (h : Ff b0 Mk L enc k D a xs ts) {m : Nat} (hm : m < xs.length) : ∀ w, SH b0 Mk L w → D w (xs.getD m default) (ts.getD m default) := fun w hw => (h.2 w hw).2.2 m hm
theorem Tj.at (h : Tj b0 B enc k D a xs ts) {m : Nat} (hm : m < xs.length) : ∀ w, kI b0 w → (∀ p ∈ B, w.heap[p.1]? = some p.2) → D w (xs.getD m default) (ts.getD m default) := fun w he hw => (h.2 w he hw).2.2 m hm
theorem Dh.at (h : Dh B enc k D a xs ts) {m : Nat} (hm : m < xs.length) : ∀ w : World, (∀ p ∈ B, w.heap[p.1]? = some p.2) → D w (xs.getD m default) (ts.getD m default) := fun w hw => (h.2 w hw).2.2 m hm
theorem E6 {α β : Type} {xs : List α} {ts : List β} (n : Nat) : (List.zip xs ts).take n = List.zip (xs.take n) (ts.take n) := List.take_zipWith
theorem E7 {α β : Type} {xs : List α} {ts : List β} (n : Nat) : (List.zip xs ts).drop n = List.zip (xs.drop n) (ts.drop n) := List.drop_zipWith
theorem Wc.take {w : World} (h : Wc w enc k D a xs ts) (n : Nat) : Wc w enc k D a (xs.take n) (ts.take n) := by
  refine ⟨by rw [List.length_take, List.length_take, h.1], ?_, fun i hi => ?_⟩
  · rw [← E6];intro i x hx;refine h.2.1 i x ?_;rw [List.getElem?_take] at hx;split at hx
    · exact hx
    · cases hx
  · rw [List.length_take] at hi;rw [Rc z4, Rc z4];exact h.2.2 i z4
theorem Wc.off {w : World} (h : Wc w enc k D a xs ts) (lo c : Nat) (hc : xs.length ≤ c) : Wc w enc k D (Kl a k lo c) (xs.drop lo) (ts.drop lo) := by
  refine ⟨by rw [List.length_drop, List.length_drop, h.1], ?_, fun i hi => ?_⟩
  · rw [← E7];exact h.2.1.off lo c (by rw [Aw h.1]; exact hc)
  · rw [List.length_drop] at hi;rw [Rd, Rd];exact h.2.2 _ z4
theorem Ff.take (h : Ff b0 Mk L enc k D a xs ts) (n : Nat) : Ff b0 Mk L enc k D a (xs.take n) (ts.take n) := ⟨by rw [List.length_take, List.length_take, h.1], fun w hw => (h.2 w hw).take n⟩
theorem Tj.take (h : Tj b0 B enc k D a xs ts) (n : Nat) : Tj b0 B enc k D a (xs.take n) (ts.take n) := ⟨by rw [List.length_take, List.length_take, h.1], fun w he hw => (h.2 w he hw).take n⟩
theorem Dh.take (h : Dh B enc k D a xs ts) (n : Nat) : Dh B enc k D a (xs.take n) (ts.take n) := ⟨by rw [List.length_take, List.length_take, h.1], fun w hw => (h.2 w hw).take n⟩
theorem Ff.off (h : Ff b0 Mk L enc k D a xs ts) (lo c : Nat) (hc : xs.length ≤ c) : Ff b0 Mk L enc k D (Kl a k lo c) (xs.drop lo) (ts.drop lo) := ⟨by rw [List.length_drop, List.length_drop, h.1], fun w hw => (h.2 w hw).off lo c hc⟩
theorem Tj.off (h : Tj b0 B enc k D a xs ts) (lo c : Nat) (hc : xs.length ≤ c) : Tj b0 B enc k D (Kl a k lo c) (xs.drop lo) (ts.drop lo) := ⟨by rw [List.length_drop, List.length_drop, h.1], fun w he hw => (h.2 w he hw).off lo c hc⟩
theorem Bk.nil : Bk B D ([] : List α) ([] : List β) := ⟨rfl, fun _ _ i hi => by simp at hi⟩
theorem Bk.mono {B' : An} (h : Bk B D xs ts) (hB : ∀ p ∈ B, p ∈ B' := by intro p hp; repeat (first | exact hp | exact List.mem_append_left _ hp | apply List.mem_append_right | apply List.mem_cons_of_mem)) : Bk B' D xs ts := ⟨h.1, fun w hw => h.2 w fun p hp => hw p (hB p hp)⟩
theorem Bk.append {ys : List α} {us : List β} (h : Bk B D xs ts) (h2 : Bk B D ys us) : Bk B D (xs ++ ys) (ts ++ us) := by
  refine ⟨by rw [List.length_append, List.length_append, h.1, h2.1], fun w hw i hi => ?_⟩;rw [Yu, Yu, h.1];rw [List.length_append] at hi;by_cases hc : i < xs.length
  · rw [if_pos hc, if_pos hc]; exact h.2 w hw i hc
  · rw [if_neg hc, if_neg hc]; exact h2.2 w hw _ z4
theorem Bk.take (h : Bk B D xs ts) (n : Nat) : Bk B D (xs.take n) (ts.take n) := by
  refine ⟨by rw [List.length_take, List.length_take, h.1], fun w hw i hi => ?_⟩;rw [List.length_take] at hi;rw [Rc z4, Rc z4];exact h.2 w hw i z4
theorem Bk.drop (h : Bk B D xs ts) (n : Nat) : Bk B D (xs.drop n) (ts.drop n) := by
  refine ⟨by rw [List.length_drop, List.length_drop, h.1], fun w hw i hi => ?_⟩;rw [List.length_drop] at hi;rw [Rd, Rd];exact h.2 w hw _ z4
theorem Bk.one {x : α} {t : β} (h : ∀ w : World, (∀ p ∈ B, w.heap[p.1]? = some p.2) → D w x t) : Bk B D [x] [t] := ⟨rfl, fun w hw i hi => by
  have : i = 0 := by simp at hi; omega
  subst this; exact h w hw⟩
theorem Bk.of (h : Dh B enc k D a xs ts) : Bk B D xs ts := ⟨h.1, fun w hw => (h.2 w hw).2.2⟩
theorem Bg.nj {e : TypeId} {c : Nat} {R : An} (hE : Dk enc k) (h : Bg enc k e a c B (List.zip xs ts)) (hd : Bk R D xs ts) (hB : ∀ p ∈ B, p ∈ L := by intro p hp; repeat (first | exact hp | exact List.mem_append_left _ hp | apply List.mem_append_right | apply List.mem_cons_of_mem)) (hR : ∀ p ∈ R, p ∈ L := by intro p hp; repeat (first | exact hp | exact List.mem_append_left _ hp | apply List.mem_append_right | apply List.mem_cons_of_mem)) : Ff b0 Mk L enc k D a xs ts :=
  ⟨hd.1, fun w hw => ⟨hd.1, h.sl hE fun p hp => hw.own p (hB p hp), hd.2 w fun p hp => hw.own p (hR p hp)⟩⟩
theorem Bg.nb {e : TypeId} {c : Nat} {R U : An} (hE : Dk enc k) (h : Bg enc k e a c B (List.zip xs ts)) (hd : Bk R D xs ts) (hB : ∀ p ∈ B, p ∈ U := by intro p hp; repeat (first | exact hp | exact List.mem_append_left _ hp | apply List.mem_append_right | apply List.mem_cons_of_mem)) (hR : ∀ p ∈ R, p ∈ U := by intro p hp; repeat (first | exact hp | exact List.mem_append_left _ hp | apply List.mem_append_right | apply List.mem_cons_of_mem)) : Dh U enc k D a xs ts :=
  ⟨hd.1, fun w hw => ⟨hd.1, h.sl hE fun p hp => hw p (hB p hp), hd.2 w fun p hp => hw p (hR p hp)⟩⟩
end
section
variable {P : Program} {b0 : World} {Mk : List Nat} {N : Nat} {D : List Deferred} {L V : An} {E : Ef} {ty : TypeId}
theorem E8 {t : TypeId} {x : Operand} {a : Option Addr} {o n : Nat} {α : Type} {enc : α → List Value} {k : Nat} {xs : List α} {cs : List Value} (hA : ∀ w, (isAgg t).run P w = .ok true w) (hS : ∀ w, (sizeOf t).run P w = .ok n w) (m : Nat) {z : α} (j : Nat) (hs : Bv b0 Mk L enc k a xs) (hz : xs[m]? = some z)
    (hv : seg (enc z) j n = some cs := by rfl) (hx : ev E x = some (.pointer (some (ea a o))) := by rfl) (ho : o = m * k + j := by first | rfl | omega) :
    Dm P N D b0 Mk L E (.load t x) ty (.agg cs.toArray) := fun a' w ha hw => by
  obtain ⟨b, off, rfl, hlen, hc⟩ := hs w hw m z hz;subst ho;have he : ea (some ⟨b, off, none⟩) (m * k + j) = ⟨b, off + m * k + j, none⟩ := by simp [ea, Nat.add_assoc]
  obtain ⟨h1, h2⟩ := Sz _ _ _ _ hv;have hl : (loadCells ⟨b, off + m * k + j, none⟩ n).run P w = .ok cs.toArray w := by
    rw [← h1];exact run_loadCells_list w _ cs fun i v hj => by
      rw [Bh];have := hc (j + i) v (h2 i v hj);rw [show off + m * k + j + i = off + m * k + (j + i) by omega];exact this
  simp [Gk, execOp, ha.eval hx, Instr.loadAt, Instr.sureAddr, loadVar, hA, hS, he, hl]
theorem Ny.len {κ : Type} {enc : κ → Value} {es : Array MapEntry} {xs : List κ} (h : Ny enc es xs) : es.size = xs.length := by
  have := congrArg List.length h;simpa using this
theorem kW {t kt et : TypeId} {x : Operand} {r ck : Nat} {es : Array MapEntry} {κ : Type} {enc : κ → Value} {xs : List κ} (hU : ∀ w, (underlying t).run P w = .ok (.map kt et) w) (hes : Ny enc es xs) (hx : ev E x = some (.map (some r)) := by rfl)
    (hm : (r, Obj.map es ck) ∈ L := by repeat (first | exact List.mem_cons_self | apply List.mem_cons_of_mem | apply List.mem_append_right)) :
    Dm P N D b0 Mk L E (.call { callee := .builtin .len, args := #[x], argTypes := #[t] }) ty (.int .i64 (xs.length : Int)) := by
  rw [← hes.len];exact AK4 hU hx hm
end
section
variable {P : Program} {rd : Option Nat} {b0 : World} {Mk : List Nat} {N : Nat} {D : List Deferred} {ops : Array Oper} {L V : An} {E : Ef} {T : Act → World → Prop}
variable {ty : TypeId} {pos : String} {after : Array Edge} {d : Nat}
theorem Qm {α : Type} {enc : α → List Value} {kk by_ n : Nat} {i : Int} {t e : TypeId} {z : Value} {x0 : α} {x y : Operand} {l : List Oper} {n' f' : Nat} {listed : Array Bool} {j : Nat} (hj : l[j]? = some { dst := some d, op := .makeSlice t x y, type := ty, pos := pos, after := after, guard := none }) (hT : Ty P e kk by_ z) (hU : P.underlying t = some (.slice e)) (hE : Dk enc kk) (hz : Di z = enc x0) (hb : by_ * n ≤ 281474976710656 ∧ n ≤ 4611686018427387904) (hx : ev E x = some (.int .i64 i) := by rfl) (hy : ev E y = some (.int .i64 i) := by rfl) (hi : i = (n : Int) := by omega) (hd : Nat.blt d N = true := by rfl)
    (k : ∀ a2 B2, Bg enc kk e a2 n B2 (List.replicate n x0) → JG P rd b0 Mk N D l n' f' (listed.setIfInBounds j true) (B2 ++ L) V ((d, .slice a2 n n) :: E) T) :
    JO P rd b0 Mk N D l n' f' listed L V E T j :=
  Kp hj hT hU hE hz hb hx hy hi hd (fun a2 B2 ho => by have h := k a2 B2 ho; rw [List.length_replicate]; exact h)
end
section
variable {P : Program} {b0 : World} {Mk : List Nat} {N : Nat} {D : List Deferred} {L : An} {E : Ef} {ty : TypeId}
theorem Kq {t e len n : TypeId} {x y : Operand} {k : IntKind} {p : Int} {l cs : List Value} {m : Nat} (hU : ∀ w, (underlying t).run P w = .ok (.array len e) w) (hS : ∀ w, (sizeOf e).run P w = .ok n w) (hA : ∀ w, (isAgg e).run P w = .ok true w) (hx : ev E x = some (.agg l.toArray) := by rfl) (hy : ev E y = some (.int k p) := by rfl) (hi : p = (m : Int) := by rfl) (hm : Nat.blt m len = true := by rfl) (hv : (l.drop (m * n)).take n = cs := by rfl) :
    Dm P N D b0 Mk L E (.index t x y) ty (.agg cs.toArray) := fun a w ha _ => by
  subst hi;have hm' : m < len := by simpa [Nat.blt_eq] using hm
  subst hv;simp [Gk, execOp, ha.eval hx, ha.eval hy, Instr.index, asIntOf, hU, hS, hm', part, hA]
  try rw [List.take_drop]
end
end Go.Proofs.YtopjaeoklkpcpaaGreatDoor.Jd

namespace Go.Proofs.YtopjaeoklkpcpaaGreatDoor.Jd
open Go.Proofs.Tryz
open Go.RowKit (Below)
set_option linter.unusedVariables false
set_option linter.unusedSimpArgs false
theorem Sl.cmono {w w' : World} {α : Type} {enc : α → List Value} {k : Nat} {a : Option Addr} {xs : List α} (hc : ∀ p v, w.cell? p = some v → w'.cell? p = some v) (h : Sl w enc k a xs) : Sl w' enc k a xs := fun i x hx => by
  obtain ⟨b, off, e, hl, h2⟩ := h i x hx;exact ⟨b, off, e, hl, fun j v hv => hc _ _ (h2 j v hv)⟩
theorem Bv.nilj {b0 : World} {Mk : List Nat} {L : An} {α : Type} {enc : α → List Value} {k : Nat} {a : Option Addr} : Bv b0 Mk L enc k a ([] : List α) := fun _ _ => Sl.nil
theorem sk {a : Nat × Obj} {L' L : An} (h : List.Sublist L' L) : List.Sublist (a :: L') (a :: L) := h.cons_cons a
theorem sd {a : Nat × Obj} {L' L : An} (h : List.Sublist L' L) : List.Sublist L' (a :: L) := h.cons a
theorem sa {A L' L : An} (h : List.Sublist L' L) : List.Sublist (A ++ L') (A ++ L) := (List.Sublist.refl A).append h
theorem sx {A L' L : An} (h : List.Sublist L' L) : List.Sublist L' (A ++ L) := h.trans (List.sublist_append_right A L)
theorem sz : List.Sublist ([] : An) [] := List.nil_sublist _
abbrev vi (n : Int) : Value := .int .i64 n
abbrev vs (a : Option Addr) (n c : Nat) : Value := .slice a n c
abbrev vt (s : Az) : Value := .string (bs s)
abbrev oc (l : List Value) (t : TypeId) : Obj := .cells l.toArray t
theorem nE {L : An} : ([] : An) ++ L = L := rfl
theorem nC {a : Nat × Obj} {V L X : An} (h : V ++ L = X) : (a :: V) ++ L = a :: X := h ▸ rfl
theorem nA {B V L X : An} (h : V ++ L = X) : (B ++ V) ++ L = B ++ X := by rw [List.append_assoc, h]
theorem vp {L L2 V L' : An} (p : List.Perm L L2) (e : V ++ L' = L2) : List.Perm L (V ++ L') := e ▸ p
theorem eqp {L L' : An} (e : L = L') : List.Perm L L' := .of_eq e
theorem W4 {A B C : An} (h1 : ∀ p ∈ A, p ∈ C) (h2 : ∀ p ∈ B, p ∈ C) : ∀ p ∈ A ++ B, p ∈ C := fun p hp => (List.mem_append.1 hp).elim (h1 p) (h2 p)
theorem E9 {C : An} : ∀ p ∈ ([] : An), p ∈ C := fun p hp => by cases hp
theorem W5 {r : Nat} {o : Obj} {C : An} (h : (r, o) ∈ C) : ∀ p ∈ [(r, o)], p ∈ C := fun p hp => by
  rw [List.mem_singleton] at hp; subst hp; exact h
theorem sh {A C : An} (h : ∀ p ∈ A, p ∈ C := by
    (repeat' (first | exact E9 | refine W4 ?_ ?_ | refine W5 ?_)) <;>
    first
    | (intro p hp; (repeat (first | exact hp | exact List.mem_append_left _ hp | apply List.mem_append_right | apply List.mem_cons_of_mem)); done)
    | ((repeat (first | exact List.mem_cons_self | apply List.mem_cons_of_mem | apply List.mem_append_right)); done)
    | (intro p hp; simp_all; done)) : ∀ p ∈ A, p ∈ C := h
section
variable {P : Program} {b0 : World} {Mk : List Nat} {N : Nat} {D : List Deferred} {L : An} {E : Ef} {ty : TypeId}
theorem F0 {κ : Type} [DecidableEq κ] {kd : TypeDesc} {enc : κ → Value} {t kt et : TypeId} {x y : Operand} {r ck : Nat} {es : Array MapEntry} {xs : List κ} (q : κ) [inst : Decidable (q ∈ xs)] (hk : Qk kd enc) (hU : ∀ w, (underlying t).run P w = .ok (.map kt et) w) (hK : ∀ w, (underlying kt).run P w = .ok kd w)
    (hz : ∀ w, (zeroValue et).run P w = .ok (.bool false) w) (hes : Ny enc es xs) (hx : ev E x = some (.map (some r)) := by rfl) (hy : ev E y = some (enc q) := by rfl)
    (hm : (r, Obj.map es ck) ∈ L := by repeat (first | exact List.mem_cons_self | apply List.mem_cons_of_mem | apply List.mem_append_right)) :
    Dm P N D b0 Mk L E (.lookup t x y false) ty (.bool (decide (q ∈ xs))) := by
  have h := Yt (P := P) (N := N) (D := D) (b0 := b0) (Mk := Mk) (L := L) (E := E) (ty := ty) (t := t) q hk hU hK hz hes hx hy hm;have e : ∀ (i1 i2 : Decidable (q ∈ xs)), @decide _ i1 = @decide _ i2 := fun i1 i2 => by congr
  rw [e _ inst] at h;exact h
end
end Go.Proofs.YtopjaeoklkpcpaaGreatDoor.Jd

namespace Go.Proofs.YtopjaeoklkpcpaaGreatDoor.Jd
open Go.Proofs.Tryz
set_option linter.unusedVariables false
set_option linter.unusedSimpArgs false
theorem Cu {A C : An} {w : World} (hw : ∀ p ∈ C, w.heap[p.1]? = some p.2) (h : ∀ p ∈ A, p ∈ C := by exact sh) : ∀ p ∈ A, w.heap[p.1]? = some p.2 := fun p hp => hw p (h p hp)
theorem sho {b0 : World} {Mk : List Nat} {A L : An} {w : World} (hw : SH b0 Mk L w) (h : ∀ p ∈ A, p ∈ L := by exact sh) : ∀ p ∈ A, w.heap[p.1]? = some p.2 := fun p hp => hw.own p (h p hp)
end Go.Proofs.YtopjaeoklkpcpaaGreatDoor.Jd

namespace Go.Proofs.YtopjaeoklkpcpaaGreatDoor.Jd
open Go.Proofs.Tryz
open Go.RowKit (Below)
set_option linter.unusedVariables false
set_option linter.unusedSimpArgs false
section
variable {P : Program} {rd : Option Nat} {b0 : World} {Mk : List Nat} {N : Nat} {D : List Deferred} {ops : Array Oper} {L V : An} {C : List (Addr × Value)} {E : Ef} {T : Act → World → Prop}
variable {op : Op} {ty : TypeId} {pos : String} {after : Array Edge} {v : Value} {d : Nat}
theorem AD1 {l : List (Bool × Oper)} (h : Dm P N D b0 Mk (V ++ L) E op ty v) (hn : Bi op = true := by rfl) (hd : Nat.blt d N = true := by rfl) (k : JK P rd b0 Mk N D ops L V C ((d, v) :: E) l T) :
    JK P rd b0 Mk N D ops L V C E ((false, { dst := some d, op := op, type := ty, pos := pos, after := after, guard := none }) :: l) T := by
  intro a w ha hw hc;unfold Vn;rw [if_pos (by rfl)];exact De (Bj hn) (by rw [Co]; exact h a w ha hw) ⟨_, fun _ h => h, ⟨hw.right, hc⟩, k _ _ (ha.put hd v) hw hc⟩
theorem AX6 {l : List (Bool × Oper)} {f : FuncId} {args : List Value} {R : World → Ending → World → Prop} (hc : Ot P N D b0 Mk L E op ty f args) (h : ∀ w, SH b0 Mk L w → Calls P f args.toArray w (R w)) (hn : Bi op = true := by rfl) (hd : Nat.blt d N = true := by rfl)
    (k : ∀ w e w', SH b0 Mk L w → R w e w' → ∃ v B L', e = .returned v ∧ Dj w w' B ∧ L' = B ++ L ∧ JK P rd b0 Mk N D ops L' V C ((d, v) :: E) l T) :
    JK P rd b0 Mk N D ops L V C E ((false, { dst := some d, op := op, type := ty, pos := pos, after := after, guard := none }) :: l) T := by
  intro a w ha hw hk;unfold Vn;rw [if_pos (by rfl)];refine Eh (Bj hn) z59 ((h w hw.right).mono fun e w' he => ?_);obtain ⟨v, B, L', rfl, h2, rfl, h3⟩ := k w e w' hw.right he;have h4 := aG hw h2;exact ⟨_, rfl, SK b0 Mk (B ++ L) C, fun y hy => ⟨hy.1.right, hy.2⟩, ⟨h4.right, hk.ext h2.1⟩, h3 _ _ (ha.put hd _) h4 (hk.ext h2.1)⟩
end
end Go.Proofs.YtopjaeoklkpcpaaGreatDoor.Jd

namespace Go.Proofs.YtopjaeoklkpcpaaGreatDoor.Jd
open Go.Proofs.Tryz
open Go.ChangeShapes Go.WideShapes Go.ChangeAt Go.RowKit
set_option linter.unusedVariables false
set_option linter.unusedSimpArgs false
section
variable {H : Type} {encH : TypeId × Value → H} {P : Program} {W : World}
def AL7 {α β : Type} (encH : TypeId × Value → H) (P : Program) (W : World) (e : TypeId) (enc : α × β → List Value) (D : World → α → β → Prop) : Prop :=
  ∀ (n : Nat) (cs : List Value) (y : DataW H × List MemPlace), DataW.trod encH P W 0 (fun _ => true) true n e cs = some y → ∃ x t, cs = enc (x, t) ∧ D W x t
theorem F1 {α β : Type} [Inhabited α] [Inhabited β] {enc : α × β → List Value} {D : World → α → β → Prop} {k : Nat} {t e : TypeId} {n : Nat} {cs : List Value} {y : DataW H × List MemPlace} (ht : P.underlying t = some (.slice e)) (hk : P.cellsOf e = k) (hE : Dk enc k) (ho : AL7 encH P W e enc D)
    (h : DataW.trod encH P W 0 (fun _ => true) true n t cs = some y) : ∃ a c, ∃ xs : List α, ∃ ts : List β, cs = [.slice a xs.length c] ∧ xs.length ≤ c ∧ Wc W enc k D a xs ts := by
  obtain ⟨a, c, zs, h1, h2, h3⟩ := Yn (enc := fun z : {z : α × β // D W z.1 z.2} => enc z.1) ht hk ⟨hE.pos, fun z => hE.len z.1, fun z => hE.one z.1⟩ (fun n cs y h => by
    obtain ⟨x, t, e, hd⟩ := ho n cs y h;exact ⟨⟨(x, t), hd⟩, e⟩) h
  have hz : List.zip (zs.map fun z => z.1.1) (zs.map fun z => z.1.2) = zs.map fun z => z.1 := List.zip_map'
  refine ⟨a, c, zs.map (fun z => z.1.1), zs.map (fun z => z.1.2), by simpa using h1, by simpa using h2, by simp, ?_, fun i hi => ?_⟩
  · rw [hz];intro i x hx;rw [List.getElem?_map, Option.map_eq_some_iff] at hx;obtain ⟨z, uh, rfl⟩ := hx;exact h3 i z uh
  · have hi' : i < zs.length := by simpa using hi
    simpa [List.getD, hi'] using (zs[i]).2
def F2 {H : Type} (x : Int × Az × Int) : DataW H := .agg [.lit (.int .i64 x.1), .lit (.string x.2.1), .lit (.int .i64 x.2.2)]
def F3 (x : Int × Az × Int) : List Value := [.int .i64 x.1, .string (bs x.2.1), .int .i64 x.2.2]
theorem wO {base : Nat} {sp : Nat → Bool} {held : Bool} {fuel : Nat} {e : TypeId} {fs : Array Field} {f0 f1 f2 : Field} {cs : List Value} {x : Int × Az × Int} {ps : List MemPlace} (hs : P.underlying e = some (.struct fs)) (hfs : fs = #[f0, f1, f2]) (hce : P.cellsOf e = 3)
    (o0 : f0.offset = 0) (o1 : f1.offset = 1) (o2 : f2.offset = 2) (t0 : P.underlying f0.type = some (.int .i64)) (t1 : P.underlying f1.type = some .string) (t2 : P.underlying f2.type = some (.int .i64)) (c0 : P.cellsOf f0.type = 1) (c1 : P.cellsOf f1.type = 1) (c2 : P.cellsOf f2.type = 1)
    (h : DataW.trod encH P W base sp held fuel e cs = some (F2 x, ps)) : cs = F3 x := by
  subst hfs;obtain ⟨xs, m, _, hx, hlen, hxl, hf⟩ := DataW.trod_struct hs h;have hxl' : xs.length = 3 := by simpa using hxl
  rw [hce] at hlen;obtain ⟨x0, x1, x2, rfl⟩ : ∃ x0 x1 x2, xs = [x0, x1, x2] := by
    match xs, hxl' with
    | [a, b, c], _ => exact ⟨a, b, c, rfl⟩
  obtain ⟨v0, v1, v2, rfl⟩ : ∃ v0 v1 v2, cs = [v0, v1, v2] := by
    match cs, hlen with
    | [a, b, c], _ => exact ⟨a, b, c, rfl⟩
  have e0 : _ = some x0 := hf 0 f0 rfl;have e1 : _ = some x1 := hf 1 f1 rfl;have e2 : _ = some x2 := hf 2 f2 rfl;rw [o0, c0] at e0;rw [o1, c1] at e1;rw [o2, c2] at e2;obtain ⟨n0, q0, r0, _⟩ := DataW.trod_int t0 e0;obtain ⟨s1, q1, r1, _⟩ := DataW.trod_string t1 e1;obtain ⟨n2, q2, r2, _⟩ := DataW.trod_int t2 e2;have hd := congrArg Prod.fst hx;simp only [F2, r0, r1, r2, List.map_cons, List.map_nil, DataW.agg.injEq, List.cons.injEq, DataW.lit.injEq, Lit.int.injEq, Lit.string.injEq, true_and, and_true] at hd;obtain ⟨d0, d1, d2⟩ := hd;simp at q0 q1 q2;rw [q0, q1, q2, ← d0, ← d2, AD0 s1, ← d1];rfl
theorem kX {name : String} {l : List (Int × Az × Int)} {rest : List (String × DataW Unit)} {g : Nat} {t e : TypeId} {n : Nat} {fs : Array Field} {f0 f1 f2 : Field} (hg : P.globalNamed name = some g) (hty : (P.globals[g]?).map (·.type) = some t) (ht : P.underlying t = some (.array n e)) (hs : P.underlying e = some (.struct fs)) (hfs : fs = #[f0, f1, f2]) (hce : P.cellsOf e = 3) (hct : P.cellsOf t = 3 * n)
    (o0 : f0.offset = 0) (o1 : f1.offset = 1) (o2 : f2.offset = 2) (t0 : P.underlying f0.type = some (.int .i64)) (t1 : P.underlying f1.type = some .string) (t2 : P.underlying f2.type = some (.int .i64)) (c0 : P.cellsOf f0.type = 1) (c1 : P.cellsOf f1.type = 1) (c2 : P.cellsOf f2.type = 1) (hl : l.length = n)
    (h : laidMet P ((name, .agg (l.map F2)) :: rest) W) : W.var? P name = some (l.flatMap F3).toArray := by
  obtain ⟨ps, ⟨g', t', cs, fuel, p, q, hg', ht', hvar, hd, _, _⟩, _⟩ := h;obtain rfl := Option.some.inj (hg.symm.trans hg');obtain rfl := Option.some.inj (hty.symm.trans ht');refine hvar.trans (congrArg some ?_);obtain ⟨xs, m, _, hx, hlen, hxl, hf⟩ := DataW.trod_array ht hd;rw [hct] at hlen;rw [hce] at hf;have hdx : xs.map (·.1) = l.map F2 := by
    have := congrArg Prod.fst hx;simpa using this.symm
  have row : ∀ i (hi : i < n), (cs.toList.drop (i * 3)).take 3 = F3 (l.getD i default) := fun i hi => by
    have h1 := hf i hi;rw [List.getElem?_eq_getElem z4] at h1;have h2 : xs[i].1 = F2 (l.getD i default) := by
      have := congrArg (·[i]?) hdx;simpa [show i < xs.length by omega, show i < l.length by omega, List.getD] using this
    exact wO hs hfs hce o0 o1 o2 t0 t1 t2 c0 c1 c2 (x := l.getD i default) (ps := xs[i].2) (by rw [h1, ← h2])
  have key : ∀ (l : List (Int × Az × Int)) (cs : List Value), cs.length = 3 * l.length → (∀ i, i < l.length → (cs.drop (i * 3)).take 3 = F3 (l.getD i default)) → cs = l.flatMap F3 := by
    intro l
    induction l with
    | nil => intro cs hc _; simpa using hc
    | cons x r ih =>
      intro cs hc hr;have h0 := hr 0 Gu;simp at h0;rw [List.flatMap_cons, ← List.take_append_drop 3 cs, h0];congr 1;refine ih (cs.drop 3) (by simp at hc ⊢; omega) fun i hi => ?_
      have := hr (i + 1) dA;rw [List.drop_drop, show 3 + i * 3 = (i + 1) * 3 by omega, this];simp
  have := key l cs.toList (by rw [hl]; simpa using hlen) (fun i hi => row i z4);rw [← this]
end
end Go.Proofs.YtopjaeoklkpcpaaGreatDoor.Jd

namespace Go.Proofs.YtopjaeoklkpcpaaGreatDoor.Jd
open Go.Proofs.Tryz
open Go.Proofs
set_option linter.unusedVariables false
set_option linter.unusedSimpArgs false
def Ga (B : An) {α : Type} (enc : α → List Value) (k : Nat) (a : Option Addr) (c : Nat) (xs : List α) : Prop := ∀ w : World, (∀ p ∈ B, w.heap[p.1]? = some p.2) → Sl w enc k a xs ∧ xs.length ≤ c
theorem Ga.nil {B : An} {α : Type} {enc : α → List Value} {k : Nat} {a : Option Addr} {c : Nat} : Ga B enc k a c ([] : List α) := fun _ _ => ⟨Sl.nil, Nat.zero_le _⟩
def Hf {α1 α2 α3 α4 α5 α6 α7 α8 α9 α10 α11 α12 α13 γ : Type} (v : (α1 × α2 × α3 × α4 × α5 × α6 × α7 × α8 × α9 × α10 × α11 × α12 × α13)) (g : α1 → α2 → α3 → α4 → α5 → α6 → α7 → α8 → α9 → α10 → α11 → α12 → α13 → γ) : γ := g v.1 v.2.1 v.2.2.1 v.2.2.2.1 v.2.2.2.2.1 v.2.2.2.2.2.1 v.2.2.2.2.2.2.1 v.2.2.2.2.2.2.2.1 v.2.2.2.2.2.2.2.2.1 v.2.2.2.2.2.2.2.2.2.1 v.2.2.2.2.2.2.2.2.2.2.1 v.2.2.2.2.2.2.2.2.2.2.2.1 v.2.2.2.2.2.2.2.2.2.2.2.2
def Is.xr13 {α1 α2 α3 α4 α5 α6 α7 α8 α9 α10 α11 α12 α13 γ : Type} {A : γ} {x : (α1 × α2 × α3 × α4 × α5 × α6 × α7 × α8 × α9 × α10 × α11 × α12 × α13)} {g : α1 → α2 → α3 → α4 → α5 → α6 → α7 → α8 → α9 → α10 → α11 → α12 → α13 → γ} (_ : Is A (Hf x g)) : (α1 × α2 × α3 × α4 × α5 × α6 × α7 × α8 × α9 × α10 × α11 × α12 × α13) := x
theorem Is.rn13 {α1 α2 α3 α4 α5 α6 α7 α8 α9 α10 α11 α12 α13 γ : Type} {A : γ} {x : (α1 × α2 × α3 × α4 × α5 × α6 × α7 × α8 × α9 × α10 × α11 × α12 × α13)} {g : α1 → α2 → α3 → α4 → α5 → α6 → α7 → α8 → α9 → α10 → α11 → α12 → α13 → γ} {u1 : α1} {u2 : α2} {u3 : α3} {u4 : α4} {u5 : α5} {u6 : α6} {u7 : α7} {u8 : α8} {u9 : α9} {u10 : α10} {u11 : α11} {u12 : α12} {u13 : α13} (h : Is A (Hf x g)) (hx : Is x (u1, u2, u3, u4, u5, u6, u7, u8, u9, u10, u11, u12, u13)) : Is A (g u1 u2 u3 u4 u5 u6 u7 u8 u9 u10 u11 u12 u13) := by cases hx; exact h
def tM {α1 α2 α3 α4 α5 α6 α7 α8 α9 α10 α11 α12 α13 α14 γ : Type} (v : (α1 × α2 × α3 × α4 × α5 × α6 × α7 × α8 × α9 × α10 × α11 × α12 × α13 × α14)) (g : α1 → α2 → α3 → α4 → α5 → α6 → α7 → α8 → α9 → α10 → α11 → α12 → α13 → α14 → γ) : γ := g v.1 v.2.1 v.2.2.1 v.2.2.2.1 v.2.2.2.2.1 v.2.2.2.2.2.1 v.2.2.2.2.2.2.1 v.2.2.2.2.2.2.2.1 v.2.2.2.2.2.2.2.2.1 v.2.2.2.2.2.2.2.2.2.1 v.2.2.2.2.2.2.2.2.2.2.1 v.2.2.2.2.2.2.2.2.2.2.2.1 v.2.2.2.2.2.2.2.2.2.2.2.2.1 v.2.2.2.2.2.2.2.2.2.2.2.2.2
def Is.xr14 {α1 α2 α3 α4 α5 α6 α7 α8 α9 α10 α11 α12 α13 α14 γ : Type} {A : γ} {x : (α1 × α2 × α3 × α4 × α5 × α6 × α7 × α8 × α9 × α10 × α11 × α12 × α13 × α14)} {g : α1 → α2 → α3 → α4 → α5 → α6 → α7 → α8 → α9 → α10 → α11 → α12 → α13 → α14 → γ} (_ : Is A (tM x g)) : (α1 × α2 × α3 × α4 × α5 × α6 × α7 × α8 × α9 × α10 × α11 × α12 × α13 × α14) := x
theorem Is.rn14 {α1 α2 α3 α4 α5 α6 α7 α8 α9 α10 α11 α12 α13 α14 γ : Type} {A : γ} {x : (α1 × α2 × α3 × α4 × α5 × α6 × α7 × α8 × α9 × α10 × α11 × α12 × α13 × α14)} {g : α1 → α2 → α3 → α4 → α5 → α6 → α7 → α8 → α9 → α10 → α11 → α12 → α13 → α14 → γ} {u1 : α1} {u2 : α2} {u3 : α3} {u4 : α4} {u5 : α5} {u6 : α6} {u7 : α7} {u8 : α8} {u9 : α9} {u10 : α10} {u11 : α11} {u12 : α12} {u13 : α13} {u14 : α14} (h : Is A (tM x g)) (hx : Is x (u1, u2, u3, u4, u5, u6, u7, u8, u9, u10, u11, u12, u13, u14)) : Is A (g u1 u2 u3 u4 u5 u6 u7 u8 u9 u10 u11 u12 u13 u14) := by cases hx; exact h
section
variable {P : Program} {rd : Option Nat} {b0 : World} {Mk : List Nat} {N : Nat} {D : List Deferred} {ops : Array Oper} {L V : An} {E : Ef} {T : Act → World → Prop} {Q : Exit → Act → World → Prop}
def nV {σ1 σ2 σ3 σ4 σ5 σ6 σ7 σ8 σ9 σ10 σ11 σ12 σ13 σ14 σ15 σ16 σ17 σ18 σ19 σ20 σ21 σ22 σ23 : Type} (b0 : World) (Mk : List Nat) (N : Nat) (D : List Deferred) (Ls : σ1 → σ2 → σ3 → σ4 → σ5 → σ6 → σ7 → σ8 → σ9 → σ10 → σ11 → σ12 → σ13 → σ14 → σ15 → σ16 → σ17 → σ18 → σ19 → σ20 → σ21 → σ22 → σ23 → An) (Es : σ1 → σ2 → σ3 → σ4 → σ5 → σ6 → σ7 → σ8 → σ9 → σ10 → σ11 → σ12 → σ13 → σ14 → σ15 → σ16 → σ17 → σ18 → σ19 → σ20 → σ21 → σ22 → σ23 → Ef) (I : σ1 → σ2 → σ3 → σ4 → σ5 → σ6 → σ7 → σ8 → σ9 → σ10 → σ11 → σ12 → σ13 → σ14 → σ15 → σ16 → σ17 → σ18 → σ19 → σ20 → σ21 → σ22 → σ23 → Prop) : Act → World → Prop := fun a w => ∃ s1 : σ1, ∃ s2 : σ2, ∃ s3 : σ3, ∃ s4 : σ4, ∃ s5 : σ5, ∃ s6 : σ6, ∃ s7 : σ7, ∃ s8 : σ8, ∃ s9 : σ9, ∃ s10 : σ10, ∃ s11 : σ11, ∃ s12 : σ12, ∃ s13 : σ13, ∃ s14 : σ14, ∃ s15 : σ15, ∃ s16 : σ16, ∃ s17 : σ17, ∃ s18 : σ18, ∃ s19 : σ19, ∃ s20 : σ20, ∃ s21 : σ21, ∃ s22 : σ22, ∃ s23 : σ23, I s1 s2 s3 s4 s5 s6 s7 s8 s9 s10 s11 s12 s13 s14 s15 s16 s17 s18 s19 s20 s21 s22 s23 ∧ Dg N D (Es s1 s2 s3 s4 s5 s6 s7 s8 s9 s10 s11 s12 s13 s14 s15 s16 s17 s18 s19 s20 s21 s22 s23) a ∧ SH b0 Mk (Ls s1 s2 s3 s4 s5 s6 s7 s8 s9 s10 s11 s12 s13 s14 s15 s16 s17 s18 s19 s20 s21 s22 s23) w
theorem F4 {σ1 σ2 σ3 σ4 σ5 σ6 σ7 σ8 σ9 σ10 σ11 σ12 σ13 σ14 σ15 σ16 σ17 σ18 σ19 σ20 σ21 σ22 σ23 : Type} {c : Code} (Ls : σ1 → σ2 → σ3 → σ4 → σ5 → σ6 → σ7 → σ8 → σ9 → σ10 → σ11 → σ12 → σ13 → σ14 → σ15 → σ16 → σ17 → σ18 → σ19 → σ20 → σ21 → σ22 → σ23 → An) (Es : σ1 → σ2 → σ3 → σ4 → σ5 → σ6 → σ7 → σ8 → σ9 → σ10 → σ11 → σ12 → σ13 → σ14 → σ15 → σ16 → σ17 → σ18 → σ19 → σ20 → σ21 → σ22 → σ23 → Ef) (I : σ1 → σ2 → σ3 → σ4 → σ5 → σ6 → σ7 → σ8 → σ9 → σ10 → σ11 → σ12 → σ13 → σ14 → σ15 → σ16 → σ17 → σ18 → σ19 → σ20 → σ21 → σ22 → σ23 → Prop) (h : J P rd b0 Mk N D L E c (Iy (nV b0 Mk N D Ls Es I) Q)) (k : ∀ (s1 : σ1) (s2 : σ2) (s3 : σ3) (s4 : σ4) (s5 : σ5) (s6 : σ6) (s7 : σ7) (s8 : σ8) (s9 : σ9) (s10 : σ10) (s11 : σ11) (s12 : σ12) (s13 : σ13) (s14 : σ14) (s15 : σ15) (s16 : σ16) (s17 : σ17) (s18 : σ18) (s19 : σ19) (s20 : σ20) (s21 : σ21) (s22 : σ22) (s23 : σ23), I s1 s2 s3 s4 s5 s6 s7 s8 s9 s10 s11 s12 s13 s14 s15 s16 s17 s18 s19 s20 s21 s22 s23 → JX b0 Mk N D (Ls s1 s2 s3 s4 s5 s6 s7 s8 s9 s10 s11 s12 s13 s14 s15 s16 s17 s18 s19 s20 s21 s22 s23) (Es s1 s2 s3 s4 s5 s6 s7 s8 s9 s10 s11 s12 s13 s14 s15 s16 s17 s18 s19 s20 s21 s22 s23) Q .normal) : J P rd b0 Mk N D L E c Q :=
  Oy h fun a w ⟨s1, s2, s3, s4, s5, s6, s7, s8, s9, s10, s11, s12, s13, s14, s15, s16, s17, s18, s19, s20, s21, s22, s23, hI, ha, hw⟩ => k s1 s2 s3 s4 s5 s6 s7 s8 s9 s10 s11 s12 s13 s14 s15 s16 s17 s18 s19 s20 s21 s22 s23 hI a w ha hw
theorem Lc {σ1 σ2 σ3 σ4 σ5 σ6 σ7 σ8 σ9 σ10 σ11 σ12 σ13 σ14 σ15 σ16 σ17 σ18 σ19 σ20 σ21 σ22 σ23 : Type} {Ls : σ1 → σ2 → σ3 → σ4 → σ5 → σ6 → σ7 → σ8 → σ9 → σ10 → σ11 → σ12 → σ13 → σ14 → σ15 → σ16 → σ17 → σ18 → σ19 → σ20 → σ21 → σ22 → σ23 → An} {Es : σ1 → σ2 → σ3 → σ4 → σ5 → σ6 → σ7 → σ8 → σ9 → σ10 → σ11 → σ12 → σ13 → σ14 → σ15 → σ16 → σ17 → σ18 → σ19 → σ20 → σ21 → σ22 → σ23 → Ef} {I : σ1 → σ2 → σ3 → σ4 → σ5 → σ6 → σ7 → σ8 → σ9 → σ10 → σ11 → σ12 → σ13 → σ14 → σ15 → σ16 → σ17 → σ18 → σ19 → σ20 → σ21 → σ22 → σ23 → Prop} (s1 : σ1) (s2 : σ2) (s3 : σ3) (s4 : σ4) (s5 : σ5) (s6 : σ6) (s7 : σ7) (s8 : σ8) (s9 : σ9) (s10 : σ10) (s11 : σ11) (s12 : σ12) (s13 : σ13) (s14 : σ14) (s15 : σ15) (s16 : σ16) (s17 : σ17) (s18 : σ18) (s19 : σ19) (s20 : σ20) (s21 : σ21) (s22 : σ22) (s23 : σ23) (hI : I s1 s2 s3 s4 s5 s6 s7 s8 s9 s10 s11 s12 s13 s14 s15 s16 s17 s18 s19 s20 s21 s22 s23) (hE : Je E (Es s1 s2 s3 s4 s5 s6 s7 s8 s9 s10 s11 s12 s13 s14 s15 s16 s17 s18 s19 s20 s21 s22 s23)) (hL : List.Perm L (Ls s1 s2 s3 s4 s5 s6 s7 s8 s9 s10 s11 s12 s13 s14 s15 s16 s17 s18 s19 s20 s21 s22 s23)) : JX b0 Mk N D L E (Iy (nV b0 Mk N D Ls Es I) Q) .normal :=
  fun _ _ ha hw => ⟨s1, s2, s3, s4, s5, s6, s7, s8, s9, s10, s11, s12, s13, s14, s15, s16, s17, s18, s19, s20, s21, s22, s23, hI, ha.sub hE, hw.perm hL⟩
def nW {σ1 σ2 σ3 σ4 σ5 σ6 σ7 σ8 σ9 σ10 σ11 σ12 σ13 σ14 σ15 σ16 σ17 σ18 σ19 σ20 σ21 σ22 σ23 σ24 σ25 σ26 σ27 σ28 σ29 : Type} (b0 : World) (Mk : List Nat) (N : Nat) (D : List Deferred) (Ls : σ1 → σ2 → σ3 → σ4 → σ5 → σ6 → σ7 → σ8 → σ9 → σ10 → σ11 → σ12 → σ13 → σ14 → σ15 → σ16 → σ17 → σ18 → σ19 → σ20 → σ21 → σ22 → σ23 → σ24 → σ25 → σ26 → σ27 → σ28 → σ29 → An) (Es : σ1 → σ2 → σ3 → σ4 → σ5 → σ6 → σ7 → σ8 → σ9 → σ10 → σ11 → σ12 → σ13 → σ14 → σ15 → σ16 → σ17 → σ18 → σ19 → σ20 → σ21 → σ22 → σ23 → σ24 → σ25 → σ26 → σ27 → σ28 → σ29 → Ef) (I : σ1 → σ2 → σ3 → σ4 → σ5 → σ6 → σ7 → σ8 → σ9 → σ10 → σ11 → σ12 → σ13 → σ14 → σ15 → σ16 → σ17 → σ18 → σ19 → σ20 → σ21 → σ22 → σ23 → σ24 → σ25 → σ26 → σ27 → σ28 → σ29 → Prop) : Act → World → Prop := fun a w => ∃ s1 : σ1, ∃ s2 : σ2, ∃ s3 : σ3, ∃ s4 : σ4, ∃ s5 : σ5, ∃ s6 : σ6, ∃ s7 : σ7, ∃ s8 : σ8, ∃ s9 : σ9, ∃ s10 : σ10, ∃ s11 : σ11, ∃ s12 : σ12, ∃ s13 : σ13, ∃ s14 : σ14, ∃ s15 : σ15, ∃ s16 : σ16, ∃ s17 : σ17, ∃ s18 : σ18, ∃ s19 : σ19, ∃ s20 : σ20, ∃ s21 : σ21, ∃ s22 : σ22, ∃ s23 : σ23, ∃ s24 : σ24, ∃ s25 : σ25, ∃ s26 : σ26, ∃ s27 : σ27, ∃ s28 : σ28, ∃ s29 : σ29, I s1 s2 s3 s4 s5 s6 s7 s8 s9 s10 s11 s12 s13 s14 s15 s16 s17 s18 s19 s20 s21 s22 s23 s24 s25 s26 s27 s28 s29 ∧ Dg N D (Es s1 s2 s3 s4 s5 s6 s7 s8 s9 s10 s11 s12 s13 s14 s15 s16 s17 s18 s19 s20 s21 s22 s23 s24 s25 s26 s27 s28 s29) a ∧ SH b0 Mk (Ls s1 s2 s3 s4 s5 s6 s7 s8 s9 s10 s11 s12 s13 s14 s15 s16 s17 s18 s19 s20 s21 s22 s23 s24 s25 s26 s27 s28 s29) w
theorem F5 {σ1 σ2 σ3 σ4 σ5 σ6 σ7 σ8 σ9 σ10 σ11 σ12 σ13 σ14 σ15 σ16 σ17 σ18 σ19 σ20 σ21 σ22 σ23 σ24 σ25 σ26 σ27 σ28 σ29 : Type} {c : Code} (Ls : σ1 → σ2 → σ3 → σ4 → σ5 → σ6 → σ7 → σ8 → σ9 → σ10 → σ11 → σ12 → σ13 → σ14 → σ15 → σ16 → σ17 → σ18 → σ19 → σ20 → σ21 → σ22 → σ23 → σ24 → σ25 → σ26 → σ27 → σ28 → σ29 → An) (Es : σ1 → σ2 → σ3 → σ4 → σ5 → σ6 → σ7 → σ8 → σ9 → σ10 → σ11 → σ12 → σ13 → σ14 → σ15 → σ16 → σ17 → σ18 → σ19 → σ20 → σ21 → σ22 → σ23 → σ24 → σ25 → σ26 → σ27 → σ28 → σ29 → Ef) (I : σ1 → σ2 → σ3 → σ4 → σ5 → σ6 → σ7 → σ8 → σ9 → σ10 → σ11 → σ12 → σ13 → σ14 → σ15 → σ16 → σ17 → σ18 → σ19 → σ20 → σ21 → σ22 → σ23 → σ24 → σ25 → σ26 → σ27 → σ28 → σ29 → Prop) (h : J P rd b0 Mk N D L E c (Iy (nW b0 Mk N D Ls Es I) Q)) (k : ∀ (s1 : σ1) (s2 : σ2) (s3 : σ3) (s4 : σ4) (s5 : σ5) (s6 : σ6) (s7 : σ7) (s8 : σ8) (s9 : σ9) (s10 : σ10) (s11 : σ11) (s12 : σ12) (s13 : σ13) (s14 : σ14) (s15 : σ15) (s16 : σ16) (s17 : σ17) (s18 : σ18) (s19 : σ19) (s20 : σ20) (s21 : σ21) (s22 : σ22) (s23 : σ23) (s24 : σ24) (s25 : σ25) (s26 : σ26) (s27 : σ27) (s28 : σ28) (s29 : σ29), I s1 s2 s3 s4 s5 s6 s7 s8 s9 s10 s11 s12 s13 s14 s15 s16 s17 s18 s19 s20 s21 s22 s23 s24 s25 s26 s27 s28 s29 → JX b0 Mk N D (Ls s1 s2 s3 s4 s5 s6 s7 s8 s9 s10 s11 s12 s13 s14 s15 s16 s17 s18 s19 s20 s21 s22 s23 s24 s25 s26 s27 s28 s29) (Es s1 s2 s3 s4 s5 s6 s7 s8 s9 s10 s11 s12 s13 s14 s15 s16 s17 s18 s19 s20 s21 s22 s23 s24 s25 s26 s27 s28 s29) Q .normal) : J P rd b0 Mk N D L E c Q :=
  Oy h fun a w ⟨s1, s2, s3, s4, s5, s6, s7, s8, s9, s10, s11, s12, s13, s14, s15, s16, s17, s18, s19, s20, s21, s22, s23, s24, s25, s26, s27, s28, s29, hI, ha, hw⟩ => k s1 s2 s3 s4 s5 s6 s7 s8 s9 s10 s11 s12 s13 s14 s15 s16 s17 s18 s19 s20 s21 s22 s23 s24 s25 s26 s27 s28 s29 hI a w ha hw
theorem El {σ1 σ2 σ3 σ4 σ5 σ6 σ7 σ8 σ9 σ10 σ11 σ12 σ13 σ14 σ15 σ16 σ17 σ18 σ19 σ20 σ21 σ22 σ23 σ24 σ25 σ26 σ27 σ28 σ29 : Type} {Ls : σ1 → σ2 → σ3 → σ4 → σ5 → σ6 → σ7 → σ8 → σ9 → σ10 → σ11 → σ12 → σ13 → σ14 → σ15 → σ16 → σ17 → σ18 → σ19 → σ20 → σ21 → σ22 → σ23 → σ24 → σ25 → σ26 → σ27 → σ28 → σ29 → An} {Es : σ1 → σ2 → σ3 → σ4 → σ5 → σ6 → σ7 → σ8 → σ9 → σ10 → σ11 → σ12 → σ13 → σ14 → σ15 → σ16 → σ17 → σ18 → σ19 → σ20 → σ21 → σ22 → σ23 → σ24 → σ25 → σ26 → σ27 → σ28 → σ29 → Ef} {I : σ1 → σ2 → σ3 → σ4 → σ5 → σ6 → σ7 → σ8 → σ9 → σ10 → σ11 → σ12 → σ13 → σ14 → σ15 → σ16 → σ17 → σ18 → σ19 → σ20 → σ21 → σ22 → σ23 → σ24 → σ25 → σ26 → σ27 → σ28 → σ29 → Prop} (s1 : σ1) (s2 : σ2) (s3 : σ3) (s4 : σ4) (s5 : σ5) (s6 : σ6) (s7 : σ7) (s8 : σ8) (s9 : σ9) (s10 : σ10) (s11 : σ11) (s12 : σ12) (s13 : σ13) (s14 : σ14) (s15 : σ15) (s16 : σ16) (s17 : σ17) (s18 : σ18) (s19 : σ19) (s20 : σ20) (s21 : σ21) (s22 : σ22) (s23 : σ23) (s24 : σ24) (s25 : σ25) (s26 : σ26) (s27 : σ27) (s28 : σ28) (s29 : σ29) (hI : I s1 s2 s3 s4 s5 s6 s7 s8 s9 s10 s11 s12 s13 s14 s15 s16 s17 s18 s19 s20 s21 s22 s23 s24 s25 s26 s27 s28 s29) (hE : Je E (Es s1 s2 s3 s4 s5 s6 s7 s8 s9 s10 s11 s12 s13 s14 s15 s16 s17 s18 s19 s20 s21 s22 s23 s24 s25 s26 s27 s28 s29)) (hL : List.Perm L (Ls s1 s2 s3 s4 s5 s6 s7 s8 s9 s10 s11 s12 s13 s14 s15 s16 s17 s18 s19 s20 s21 s22 s23 s24 s25 s26 s27 s28 s29)) : JX b0 Mk N D L E (Iy (nW b0 Mk N D Ls Es I) Q) .normal :=
  fun _ _ ha hw => ⟨s1, s2, s3, s4, s5, s6, s7, s8, s9, s10, s11, s12, s13, s14, s15, s16, s17, s18, s19, s20, s21, s22, s23, s24, s25, s26, s27, s28, s29, hI, ha.sub hE, hw.perm hL⟩
def nX {σ1 σ2 σ3 σ4 σ5 σ6 σ7 σ8 σ9 σ10 σ11 σ12 σ13 σ14 σ15 σ16 σ17 σ18 σ19 σ20 σ21 σ22 σ23 σ24 σ25 σ26 σ27 σ28 σ29 σ30 : Type} (b0 : World) (Mk : List Nat) (N : Nat) (D : List Deferred) (Ls : σ1 → σ2 → σ3 → σ4 → σ5 → σ6 → σ7 → σ8 → σ9 → σ10 → σ11 → σ12 → σ13 → σ14 → σ15 → σ16 → σ17 → σ18 → σ19 → σ20 → σ21 → σ22 → σ23 → σ24 → σ25 → σ26 → σ27 → σ28 → σ29 → σ30 → An) (Es : σ1 → σ2 → σ3 → σ4 → σ5 → σ6 → σ7 → σ8 → σ9 → σ10 → σ11 → σ12 → σ13 → σ14 → σ15 → σ16 → σ17 → σ18 → σ19 → σ20 → σ21 → σ22 → σ23 → σ24 → σ25 → σ26 → σ27 → σ28 → σ29 → σ30 → Ef) (I : σ1 → σ2 → σ3 → σ4 → σ5 → σ6 → σ7 → σ8 → σ9 → σ10 → σ11 → σ12 → σ13 → σ14 → σ15 → σ16 → σ17 → σ18 → σ19 → σ20 → σ21 → σ22 → σ23 → σ24 → σ25 → σ26 → σ27 → σ28 → σ29 → σ30 → Prop) : Act → World → Prop := fun a w => ∃ s1 : σ1, ∃ s2 : σ2, ∃ s3 : σ3, ∃ s4 : σ4, ∃ s5 : σ5, ∃ s6 : σ6, ∃ s7 : σ7, ∃ s8 : σ8, ∃ s9 : σ9, ∃ s10 : σ10, ∃ s11 : σ11, ∃ s12 : σ12, ∃ s13 : σ13, ∃ s14 : σ14, ∃ s15 : σ15, ∃ s16 : σ16, ∃ s17 : σ17, ∃ s18 : σ18, ∃ s19 : σ19, ∃ s20 : σ20, ∃ s21 : σ21, ∃ s22 : σ22, ∃ s23 : σ23, ∃ s24 : σ24, ∃ s25 : σ25, ∃ s26 : σ26, ∃ s27 : σ27, ∃ s28 : σ28, ∃ s29 : σ29, ∃ s30 : σ30, I s1 s2 s3 s4 s5 s6 s7 s8 s9 s10 s11 s12 s13 s14 s15 s16 s17 s18 s19 s20 s21 s22 s23 s24 s25 s26 s27 s28 s29 s30 ∧ Dg N D (Es s1 s2 s3 s4 s5 s6 s7 s8 s9 s10 s11 s12 s13 s14 s15 s16 s17 s18 s19 s20 s21 s22 s23 s24 s25 s26 s27 s28 s29 s30) a ∧ SH b0 Mk (Ls s1 s2 s3 s4 s5 s6 s7 s8 s9 s10 s11 s12 s13 s14 s15 s16 s17 s18 s19 s20 s21 s22 s23 s24 s25 s26 s27 s28 s29 s30) w
theorem F6 {σ1 σ2 σ3 σ4 σ5 σ6 σ7 σ8 σ9 σ10 σ11 σ12 σ13 σ14 σ15 σ16 σ17 σ18 σ19 σ20 σ21 σ22 σ23 σ24 σ25 σ26 σ27 σ28 σ29 σ30 : Type} {c : Code} (Ls : σ1 → σ2 → σ3 → σ4 → σ5 → σ6 → σ7 → σ8 → σ9 → σ10 → σ11 → σ12 → σ13 → σ14 → σ15 → σ16 → σ17 → σ18 → σ19 → σ20 → σ21 → σ22 → σ23 → σ24 → σ25 → σ26 → σ27 → σ28 → σ29 → σ30 → An) (Es : σ1 → σ2 → σ3 → σ4 → σ5 → σ6 → σ7 → σ8 → σ9 → σ10 → σ11 → σ12 → σ13 → σ14 → σ15 → σ16 → σ17 → σ18 → σ19 → σ20 → σ21 → σ22 → σ23 → σ24 → σ25 → σ26 → σ27 → σ28 → σ29 → σ30 → Ef) (I : σ1 → σ2 → σ3 → σ4 → σ5 → σ6 → σ7 → σ8 → σ9 → σ10 → σ11 → σ12 → σ13 → σ14 → σ15 → σ16 → σ17 → σ18 → σ19 → σ20 → σ21 → σ22 → σ23 → σ24 → σ25 → σ26 → σ27 → σ28 → σ29 → σ30 → Prop) (h : J P rd b0 Mk N D L E c (Iy (nX b0 Mk N D Ls Es I) Q)) (k : ∀ (s1 : σ1) (s2 : σ2) (s3 : σ3) (s4 : σ4) (s5 : σ5) (s6 : σ6) (s7 : σ7) (s8 : σ8) (s9 : σ9) (s10 : σ10) (s11 : σ11) (s12 : σ12) (s13 : σ13) (s14 : σ14) (s15 : σ15) (s16 : σ16) (s17 : σ17) (s18 : σ18) (s19 : σ19) (s20 : σ20) (s21 : σ21) (s22 : σ22) (s23 : σ23) (s24 : σ24) (s25 : σ25) (s26 : σ26) (s27 : σ27) (s28 : σ28) (s29 : σ29) (s30 : σ30), I s1 s2 s3 s4 s5 s6 s7 s8 s9 s10 s11 s12 s13 s14 s15 s16 s17 s18 s19 s20 s21 s22 s23 s24 s25 s26 s27 s28 s29 s30 → JX b0 Mk N D (Ls s1 s2 s3 s4 s5 s6 s7 s8 s9 s10 s11 s12 s13 s14 s15 s16 s17 s18 s19 s20 s21 s22 s23 s24 s25 s26 s27 s28 s29 s30) (Es s1 s2 s3 s4 s5 s6 s7 s8 s9 s10 s11 s12 s13 s14 s15 s16 s17 s18 s19 s20 s21 s22 s23 s24 s25 s26 s27 s28 s29 s30) Q .normal) : J P rd b0 Mk N D L E c Q :=
  Oy h fun a w ⟨s1, s2, s3, s4, s5, s6, s7, s8, s9, s10, s11, s12, s13, s14, s15, s16, s17, s18, s19, s20, s21, s22, s23, s24, s25, s26, s27, s28, s29, s30, hI, ha, hw⟩ => k s1 s2 s3 s4 s5 s6 s7 s8 s9 s10 s11 s12 s13 s14 s15 s16 s17 s18 s19 s20 s21 s22 s23 s24 s25 s26 s27 s28 s29 s30 hI a w ha hw
theorem Gd {σ1 σ2 σ3 σ4 σ5 σ6 σ7 σ8 σ9 σ10 σ11 σ12 σ13 σ14 σ15 σ16 σ17 σ18 σ19 σ20 σ21 σ22 σ23 σ24 σ25 σ26 σ27 σ28 σ29 σ30 : Type} {Ls : σ1 → σ2 → σ3 → σ4 → σ5 → σ6 → σ7 → σ8 → σ9 → σ10 → σ11 → σ12 → σ13 → σ14 → σ15 → σ16 → σ17 → σ18 → σ19 → σ20 → σ21 → σ22 → σ23 → σ24 → σ25 → σ26 → σ27 → σ28 → σ29 → σ30 → An} {Es : σ1 → σ2 → σ3 → σ4 → σ5 → σ6 → σ7 → σ8 → σ9 → σ10 → σ11 → σ12 → σ13 → σ14 → σ15 → σ16 → σ17 → σ18 → σ19 → σ20 → σ21 → σ22 → σ23 → σ24 → σ25 → σ26 → σ27 → σ28 → σ29 → σ30 → Ef} {I : σ1 → σ2 → σ3 → σ4 → σ5 → σ6 → σ7 → σ8 → σ9 → σ10 → σ11 → σ12 → σ13 → σ14 → σ15 → σ16 → σ17 → σ18 → σ19 → σ20 → σ21 → σ22 → σ23 → σ24 → σ25 → σ26 → σ27 → σ28 → σ29 → σ30 → Prop} (s1 : σ1) (s2 : σ2) (s3 : σ3) (s4 : σ4) (s5 : σ5) (s6 : σ6) (s7 : σ7) (s8 : σ8) (s9 : σ9) (s10 : σ10) (s11 : σ11) (s12 : σ12) (s13 : σ13) (s14 : σ14) (s15 : σ15) (s16 : σ16) (s17 : σ17) (s18 : σ18) (s19 : σ19) (s20 : σ20) (s21 : σ21) (s22 : σ22) (s23 : σ23) (s24 : σ24) (s25 : σ25) (s26 : σ26) (s27 : σ27) (s28 : σ28) (s29 : σ29) (s30 : σ30) (hI : I s1 s2 s3 s4 s5 s6 s7 s8 s9 s10 s11 s12 s13 s14 s15 s16 s17 s18 s19 s20 s21 s22 s23 s24 s25 s26 s27 s28 s29 s30) (hE : Je E (Es s1 s2 s3 s4 s5 s6 s7 s8 s9 s10 s11 s12 s13 s14 s15 s16 s17 s18 s19 s20 s21 s22 s23 s24 s25 s26 s27 s28 s29 s30)) (hL : List.Perm L (Ls s1 s2 s3 s4 s5 s6 s7 s8 s9 s10 s11 s12 s13 s14 s15 s16 s17 s18 s19 s20 s21 s22 s23 s24 s25 s26 s27 s28 s29 s30)) : JX b0 Mk N D L E (Iy (nX b0 Mk N D Ls Es I) Q) .normal :=
  fun _ _ ha hw => ⟨s1, s2, s3, s4, s5, s6, s7, s8, s9, s10, s11, s12, s13, s14, s15, s16, s17, s18, s19, s20, s21, s22, s23, s24, s25, s26, s27, s28, s29, s30, hI, ha.sub hE, hw.perm hL⟩
end
end Go.Proofs.YtopjaeoklkpcpaaGreatDoor.Jd

namespace Go.Proofs.YtopjaeoklkpcpaaGreatDoor.Jd
open Go.Proofs.Tryz
open Go.Proofs
set_option linter.unusedVariables false
set_option linter.unusedSimpArgs false
theorem pj {A B : An} (h : A = B := by first | rfl | (simp only [List.append_assoc, List.cons_append, List.nil_append]; done) | (simp only [List.append_assoc, List.cons_append, List.nil_append]; rfl)) : List.Perm A B := List.Perm.of_eq h
def wE (t : TypeId) (b : Bool) (e : Int) : Value := match b with | true => .iface t (Value.agg [(Value.int .i64 e)].toArray) | false => .nilIface
section
variable {P : Program} {b0 : World} {Mk : List Nat} {N : Nat} {D : List Deferred} {L : An} {E E2 : Ef} {Q : Exit → Act → World → Prop} {e : Exit}
theorem kY (h : E = E2) (k : JX b0 Mk N D L E2 Q e) : JX b0 Mk N D L E Q e := h ▸ k
end
end Go.Proofs.YtopjaeoklkpcpaaGreatDoor.Jd

namespace Go.Proofs.YtopjaeoklkpcpaaGreatDoor.Jd
open Go.Proofs.Tryz
open Go.Proofs
open Go.RowKit (Below)
set_option linter.unusedVariables false
set_option linter.unusedSimpArgs false
/-- What the library's variables hold where a call begins. -/
structure Gl (w : World) : Prop where
  vb : ∃ T f, w.heap[1]? = some (Obj.cells ([(Value.int .i64 (1)), (Value.string (bs ([99, 114, 101, 97, 116, 101] : Az))), (Value.int .i64 (4)), (Value.int .i64 (2)), (Value.string (bs ([115, 117, 115, 112, 101, 110, 100] : Az))), (Value.int .i64 (2)), (Value.int .i64 (3)), (Value.string (bs ([114, 101, 115, 117, 109, 101] : Az))), (Value.int .i64 (2)), (Value.int .i64 (4)), (Value.string (bs ([100, 114, 97, 105, 110] : Az))), (Value.int .i64 (2)), (Value.int .i64 (5)), (Value.string (bs ([100, 101, 108, 101, 116, 101] : Az))), (Value.int .i64 (4)), (Value.int .i64 (6)), (Value.string (bs ([114, 111, 116, 97, 116, 101] : Az))), (Value.int .i64 (4)), (Value.int .i64 (7)), (Value.string (bs ([97, 99, 108] : Az))), (Value.int .i64 (4)), (Value.int .i64 (8)), (Value.string (bs ([107, 105, 108, 108] : Az))), (Value.int .i64 (2)), (Value.int .i64 (9)), (Value.string (bs ([108, 105, 115, 116] : Az))), (Value.int .i64 (1)), (Value.int .i64 (10)), (Value.string (bs ([115, 104, 111, 119] : Az))), (Value.int .i64 (1))]).toArray T f)
  ety : w.cell? ⟨0, 0, none⟩ = some (.iface 199 (.agg #[.pointer (some ⟨6, 78, none⟩)]))
theorem wP {w w' : World} (he : kI w w') {a : Addr} {v : Value} (h : w.cell? a = some v) : w'.cell? a = some v := by
  have hlt := World.block_lt_of_cell? w _ h;simp only [World.cell?] at h ⊢;rw [he.block _ hlt];exact h
theorem W6 {w w' : World} (he : kI w w') {k : Nat} {cs : Array Value} (h : ∃ T f, w.heap[k]? = some (Obj.cells cs T f)) : ∃ T f, w'.heap[k]? = some (Obj.cells cs T f) := by
  obtain ⟨T, f, h⟩ := h;exact ⟨T, f, by rw [he.block k (Array.getElem?_eq_some_iff.1 h).1]; exact h⟩
theorem Gl.ext {w w' : World} (h : Gl w) (he : kI w w') : Gl w' := ⟨W6 he h.vb, wP he h.ety⟩
end Go.Proofs.YtopjaeoklkpcpaaGreatDoor.Jd

namespace Go.Proofs.YtopjaeoklkpcpaaGreatDoor.Jd
open Go.Proofs.Tryz
open Go.Proofs
set_option maxRecDepth 100000
open Go.RowKit Go.Extern.Stop Go.Stop Go.Extern
set_option linter.unusedVariables false
set_option linter.unusedSimpArgs false
theorem nY (v : Value) (w : World) : (Extern.ReflectliteType.typeOf #[.iface 240 v]).run Tryz.prog w = .ok (.iface 199 (.agg #[.pointer (some ⟨6, 240, none⟩)])) w := by kernel_rfl
theorem Yv (w : World) : ((Extern.ReflectliteType.method fun t => do Extern.Rtype.noPackHeld "Comparable" t; pure (.bool (← typeInfo t).comparable)) #[.agg #[.pointer (some ⟨6, 240, none⟩)]]).run Tryz.prog w = .ok (.bool true) w := by kernel_rfl
theorem Nz (v : Value) (w : World) : (Go.method 373 199 v "Comparable").run Tryz.prog w = .ok (205, v) w := by kernel_rfl
theorem F7 : (Tryz.prog.info? 240).map (·.comparable) = some true := by kernel_rfl
theorem F8 : (Tryz.prog.info? 261).map (·.size) = some 1 := by kernel_rfl
theorem AX7 (v : Value) (xT : TypeId) (w : World) : (Instr.typeAssert (.iface 240 v) xT 236 true).run Tryz.prog w = .ok (.tuple #[.nilIface, .bool false]) w := run_typeAssert_lacksB underlying236 z5 z5 v xT w
theorem wQ (v : Value) (xT : TypeId) (w : World) : (Instr.typeAssert (.iface 240 v) xT 207 true).run Tryz.prog w = .ok (.tuple #[.nilIface, .bool false]) w := run_typeAssert_lacksB underlying207 z5 z5 v xT w
theorem rF (v : Value) (xT : TypeId) (w : World) : (Instr.typeAssert (.iface 240 v) xT 208 true).run Tryz.prog w = .ok (.tuple #[.nilIface, .bool false]) w := run_typeAssert_lacksB underlying208 z5 z5 v xT w
theorem W7 (a : Addr) (w : World) :
    Calls Tryz.prog 176 #[.iface 240 (.pointer (some a)), .iface 240 (.pointer (some a))] w fun e w' => e = .returned (.bool true) ∧ w' = w := by
  obtain ⟨i, hi, hcmp⟩ := Option.map_eq_some_iff.1 F7;obtain ⟨j, hj, hjs⟩ := Option.map_eq_some_iff.1 F8;have h8 := @run_callFunc_extern Tryz.prog 148 _ Extern.ReflectliteType.typeOf func148 z5 z5 z5 z5;have h32 := fun w => (@run_callFunc_extern Tryz.prog 205 _ (Extern.ReflectliteType.method fun t => do Extern.Rtype.noPackHeld "Comparable" t; pure (.bool (← typeInfo t).comparable)) func205 z5 z5 z5 z5 #[.agg #[.pointer (some ⟨6, 240, none⟩)]] w).trans (by rw [Yv]; rfl : _ = Result.ok (Next.value (.bool true)) w)
  have tT := nY;have mR := Nz;have heq := run_eql_iface_ptr_same (P := Tryz.prog) w a underlying78 underlying240 hi hcmp hj
  go_enter func176, ntmps176
  go_wp2
  refine wp_loop_rounds 1 ?_;rw [rounds_succ]
  go_wp2
  go_ret
  exact ⟨rfl, rfl⟩
theorem F9 (a b : Addr) (ca cb : Array Value) (ta tb : TypeId) (w : World) (hne : a ≠ b) (ha : w.heap[a.block]? = some (.cells ca ta (0, 0))) (hb : w.heap[b.block]? = some (.cells cb tb (0, 0))) :
    Calls Tryz.prog 176 #[.iface 240 (.pointer (some a)), .iface 240 (.pointer (some b))] w fun e w' => e = .returned (.bool false) ∧ w' = w := by
  obtain ⟨i, hi, hcmp⟩ := Option.map_eq_some_iff.1 F7;obtain ⟨j, hj, hjs⟩ := Option.map_eq_some_iff.1 F8;have h8 := @run_callFunc_extern Tryz.prog 148 _ Extern.ReflectliteType.typeOf func148 z5 z5 z5 z5;have h32 := fun w => (@run_callFunc_extern Tryz.prog 205 _ (Extern.ReflectliteType.method fun t => do Extern.Rtype.noPackHeld "Comparable" t; pure (.bool (← typeInfo t).comparable)) func205 z5 z5 z5 z5 #[.agg #[.pointer (some ⟨6, 240, none⟩)]] w).trans (by rw [Yv]; rfl : _ = Result.ok (Next.value (.bool true)) w)
  have tT := nY;have mR := Nz;have nE := AX7;have uE := wQ;have vE := rF;have heq := run_eql_iface_ptr_other (P := Tryz.prog) w underlying78 underlying240 hi hcmp hj (by rw [hjs]; decide) hne ha hb
  go_enter func176, ntmps176
  go_wp2
  refine wp_loop_rounds 1 ?_;rw [rounds_succ]
  go_wp2
  go_ret
  exact ⟨rfl, rfl⟩
theorem aI (w : World) {a : Addr} : Jc Tryz.prog 176 [.iface 240 (.pointer (some a)), .iface 240 (.pointer (some a))] w (.bool true) :=
  (W7 a w).mono fun e w' ⟨he, hw⟩ => ⟨he, hw ▸ Below.refl _ _⟩
theorem Xc (w : World) {a b : Addr} (hne : a ≠ b) (ha : ∃ c t, w.heap[a.block]? = some (.cells c t (0, 0))) (hb : ∃ c t, w.heap[b.block]? = some (.cells c t (0, 0))) : Jc Tryz.prog 176 [.iface 240 (.pointer (some a)), .iface 240 (.pointer (some b))] w (.bool false) := by
  obtain ⟨ca, ta, ha⟩ := ha;obtain ⟨cb, tb, hb⟩ := hb;exact (F9 a b ca cb ta tb w hne ha hb).mono fun e w' ⟨he, hw⟩ => ⟨he, hw ▸ Below.refl _ _⟩

/-- What the sentinels hold where a call begins. -/
structure Er (w : World) (ea0 ea1 ea2 ea3 : Addr) : Prop where
  v0 : ∃ T f, w.heap[2]? = some (Obj.cells [Value.iface 240 (.pointer (some ea0))].toArray T f)
  b0 : ∃ c t, w.heap[ea0.block]? = some (.cells c t (0, 0))
  v1 : ∃ T f, w.heap[3]? = some (Obj.cells [Value.iface 240 (.pointer (some ea1))].toArray T f)
  b1 : ∃ c t, w.heap[ea1.block]? = some (.cells c t (0, 0))
  v2 : ∃ T f, w.heap[4]? = some (Obj.cells [Value.iface 240 (.pointer (some ea2))].toArray T f)
  b2 : ∃ c t, w.heap[ea2.block]? = some (.cells c t (0, 0))
  v3 : ∃ T f, w.heap[5]? = some (Obj.cells [Value.iface 240 (.pointer (some ea3))].toArray T f)
  b3 : ∃ c t, w.heap[ea3.block]? = some (.cells c t (0, 0))
  n0_1 : ea0 ≠ ea1
  n0_2 : ea0 ≠ ea2
  n0_3 : ea0 ≠ ea3
  n1_0 : ea1 ≠ ea0
  n1_2 : ea1 ≠ ea2
  n1_3 : ea1 ≠ ea3
  n2_0 : ea2 ≠ ea0
  n2_1 : ea2 ≠ ea1
  n2_3 : ea2 ≠ ea3
  n3_0 : ea3 ≠ ea0
  n3_1 : ea3 ≠ ea1
  n3_2 : ea3 ≠ ea2
theorem Lx {w w' : World} (he : kI w w') {k : Nat} {ob : Obj} (h : w.heap[k]? = some ob) : w'.heap[k]? = some ob := by rw [he.block k (Array.getElem?_eq_some_iff.1 h).1]; exact h
theorem Er.ext {w w' : World} {ea0 ea1 ea2 ea3 : Addr} (h : Er w ea0 ea1 ea2 ea3) (he : kI w w') : Er w' ea0 ea1 ea2 ea3 :=
  ⟨h.v0.imp fun T h => h.imp fun f h => Lx he h, h.b0.imp fun T h => h.imp fun f h => Lx he h, h.v1.imp fun T h => h.imp fun f h => Lx he h, h.b1.imp fun T h => h.imp fun f h => Lx he h, h.v2.imp fun T h => h.imp fun f h => Lx he h, h.b2.imp fun T h => h.imp fun f h => Lx he h, h.v3.imp fun T h => h.imp fun f h => Lx he h, h.b3.imp fun T h => h.imp fun f h => Lx he h, h.n0_1, h.n0_2, h.n0_3, h.n1_0, h.n1_2, h.n1_3, h.n2_0, h.n2_1, h.n2_3, h.n3_0, h.n3_1, h.n3_2⟩
end Go.Proofs.YtopjaeoklkpcpaaGreatDoor.Jd

namespace Go.Proofs.YtopjaeoklkpcpaaGreatDoor.Jd
open Go.Proofs.Tryz
open Go.Proofs
open Go.RowKit (Below)
set_option maxRecDepth 100000
set_option maxHeartbeats 8000000
set_option linter.unusedVariables false
set_option linter.unusedSimpArgs false
structure Handle where
  slot : Int
  gen : Int
instance : Inhabited Handle := ⟨⟨default, default⟩⟩
instance : DecidableEq Handle := fun a b => decidable_of_iff (a.slot = b.slot ∧ a.gen = b.gen) ⟨fun h => by cases a; cases b; simp_all, fun h => by subst h; simp⟩
structure Slots where
  gens : List Int
  used : List Bool
  free : List Int
instance : Inhabited Slots := ⟨⟨default, default, default⟩⟩
instance : DecidableEq Slots := fun a b => decidable_of_iff (a.gens = b.gens ∧ a.used = b.used ∧ a.free = b.free) ⟨fun h => by cases a; cases b; simp_all, fun h => by subst h; simp⟩
def Qn (s : Slots) (x_1 : Nat) (x_6 : Nat) (x_7 : List Int) : Nat → Nat → Int → Nat × Int
  | 0, x_12, x_13 => (x_12, x_13)
  | n_14 + 1, x_12, x_13 => (if ((x_12 : Nat) : Int) < ((s.used.length : Nat) : Int) then (if (s.used.getD x_12 default) = true then (Qn s x_1 x_6 x_7 n_14 (x_12 + 1) (x_13 - 1)) else (Qn s x_1 x_6 x_7 n_14 (x_12 + 1) x_13)) else (x_12, x_13))
def Uv (s : Slots) (x_1 : Nat) : Nat → Nat → List Int → Except Bool (Nat × (List Int))
  | 0, x_6, x_7 => .ok (x_6, x_7)
  | n_8 + 1, x_6, x_7 => (if ((x_6 : Nat) : Int) < ((s.free.length : Nat) : Int) then (if (s.free.getD x_6 default) < 0 then .error false else (if ((s.used.length : Nat) : Int) ≤ (s.free.getD x_6 default) then .error false else (if (s.used.getD (((s.free.getD x_6 default)).toNat) default) = true then .error false else (if (s.free.getD x_6 default) ∈ x_7 then .error false else (Uv s x_1 n_8 (x_6 + 1) (x_7 ++ [(s.free.getD x_6 default)])))))) else .ok (x_6, x_7))
def Qo (s : Slots) (x_1 : Nat) (x_19 : Nat) (x_20 : List Int) : Nat → Nat → Int → Nat × Int
  | 0, x_25, x_26 => (x_25, x_26)
  | n_27 + 1, x_25, x_26 => (if ((x_25 : Nat) : Int) < ((s.used.length : Nat) : Int) then (if (s.used.getD x_25 default) = true then (Qo s x_1 x_19 x_20 n_27 (x_25 + 1) (x_26 - 1)) else (Qo s x_1 x_19 x_20 n_27 (x_25 + 1) x_26)) else (x_25, x_26))
def Uw (s : Slots) (x_1 : Nat) : Nat → Nat → List Int → Except Bool (Nat × (List Int))
  | 0, x_19, x_20 => .ok (x_19, x_20)
  | n_21 + 1, x_19, x_20 => (if ((x_19 : Nat) : Int) < ((s.free.length : Nat) : Int) then (if (s.free.getD x_19 default) < 0 then .error false else (if ((s.used.length : Nat) : Int) ≤ (s.free.getD x_19 default) then .error false else (if (s.used.getD (((s.free.getD x_19 default)).toNat) default) = true then .error false else (if (s.free.getD x_19 default) ∈ x_20 then .error false else (Uw s x_1 n_21 (x_19 + 1) (x_20 ++ [(s.free.getD x_19 default)])))))) else .ok (x_19, x_20))
def Hg (s : Slots) (x_1 : Nat) (x_32 : Nat) (x_33 : List Int) : Nat → Nat → Int → Nat × Int
  | 0, x_38, x_39 => (x_38, x_39)
  | n_40 + 1, x_38, x_39 => (if ((x_38 : Nat) : Int) < ((s.used.length : Nat) : Int) then (if (s.used.getD x_38 default) = true then (Hg s x_1 x_32 x_33 n_40 (x_38 + 1) (x_39 - 1)) else (Hg s x_1 x_32 x_33 n_40 (x_38 + 1) x_39)) else (x_38, x_39))
def Fc (s : Slots) (x_1 : Nat) : Nat → Nat → List Int → Except Bool (Nat × (List Int))
  | 0, x_32, x_33 => .ok (x_32, x_33)
  | n_34 + 1, x_32, x_33 => (if ((x_32 : Nat) : Int) < ((s.free.length : Nat) : Int) then (if (s.free.getD x_32 default) < 0 then .error false else (if ((s.used.length : Nat) : Int) ≤ (s.free.getD x_32 default) then .error false else (if (s.used.getD (((s.free.getD x_32 default)).toNat) default) = true then .error false else (if (s.free.getD x_32 default) ∈ x_33 then .error false else (Fc s x_1 n_34 (x_32 + 1) (x_33 ++ [(s.free.getD x_32 default)])))))) else .ok (x_32, x_33))
def Fq (s : Slots) : Nat → Nat → Except Bool Nat
  | 0, x_1 => .ok (x_1)
  | n_2 + 1, x_1 => (if ((x_1 : Nat) : Int) < ((s.gens.length : Nat) : Int) then (if (s.gens.getD x_1 default) < 0 then .error (if ¬ (¬ (0 ≤ ((x_1 : Nat) : Int))) then false else (Hr (Uv s x_1 (s.free.length + 1) 0 ([] : List Int)) (fun r => r) (fun x_6 x_7 => (Pn (Qn s x_1 x_6 x_7 (s.used.length + 1) 0 ((s.gens.length : Nat) : Int)) (fun x_12 x_13 => (if ¬ (x_13 = ((x_7.length : Nat) : Int)) then false else true)))))) else (if 1000000000 < (s.gens.getD x_1 default) then .error (if ¬ (¬ (0 ≤ ((x_1 : Nat) : Int))) then false else (Hr (Uw s x_1 (s.free.length + 1) 0 ([] : List Int)) (fun r => r) (fun x_19 x_20 => (Pn (Qo s x_1 x_19 x_20 (s.used.length + 1) 0 ((s.gens.length : Nat) : Int)) (fun x_25 x_26 => (if ¬ (x_26 = ((x_20.length : Nat) : Int)) then false else true)))))) else (Fq s n_2 (x_1 + 1)))) else .ok (x_1))
def Fb (s : Slots) : Bool := (if 1 ≤ ((s.gens.length : Nat) : Int) then (if ((s.gens.length : Nat) : Int) ≤ 64 then (if ¬ (((s.used.length : Nat) : Int) = ((s.gens.length : Nat) : Int)) then false else (Cc (Fq s (s.gens.length + 1) 0) (fun r => r) (fun x_1 => (Hr (Fc s x_1 (s.free.length + 1) 0 ([] : List Int)) (fun r => r) (fun x_32 x_33 => (Pn (Hg s x_1 x_32 x_33 (s.used.length + 1) 0 ((s.gens.length : Nat) : Int)) (fun x_38 x_39 => (if ¬ (x_39 = ((x_33.length : Nat) : Int)) then false else true)))))))) else false) else false)
def Hz (s : Slots) : Nat → Nat → List Handle → Nat × (List Handle)
  | 0, x_1, x_2 => (x_1, x_2)
  | n_3 + 1, x_1, x_2 => (if ((x_1 : Nat) : Int) < ((s.used.length : Nat) : Int) then (if (s.used.getD x_1 default) = true then (Hz s n_3 (x_1 + 1) (x_2 ++ ([(Handle.mk ((x_1 : Nat) : Int) (s.gens.getD x_1 default))] : List Handle))) else (Hz s n_3 (x_1 + 1) x_2)) else (x_1, x_2))
def Dz (s : Slots) : List Handle := (if (!(Fb s)) = true then [] else (Pn (Hz s (s.used.length + 1) 0 []) (fun x_1 x_2 => x_2)))
def Hu (s : Slots) (h : Handle) : Nat → Nat → Except Bool Nat
  | 0, x_1 => .ok (x_1)
  | n_2 + 1, x_1 => (if ((x_1 : Nat) : Int) < ((((Dz s).length) : Nat) : Int) then (if (((Dz s).getD x_1 default).slot) = h.slot ∧ (((Dz s).getD x_1 default).gen) = h.gen then .error true else (Hu s h n_2 (x_1 + 1))) else .ok (x_1))
def Tk (s : Slots) (h : Handle) : Bool := (Cc (Hu s h (((Dz s).length) + 1) 0) (fun r => r) (fun x_1 => false))
def Cl (s : Slots) : Slots × Handle × Int := (if (!(Fb s)) = true then ((Slots.mk ([]) ([]) ([])), (Handle.mk 0 0), 90) else (if (((((s.free).length) : Nat) : Int) - 1) < 0 then ((Slots.mk ([]) ([]) ([])), (Handle.mk 0 0), 92) else (if (s.gens.getD ((((s.free).getD (((((((s.free).length) : Nat) : Int) - 1)).toNat) default)).toNat) default) = 1000000000 then ((Slots.mk ([]) ([]) ([])), (Handle.mk 0 0), 92) else ((Slots.mk (s.gens.set ((((s.free).getD (((((((s.free).length) : Nat) : Int) - 1)).toNat) default)).toNat) ((s.gens.getD ((((s.free).getD (((((((s.free).length) : Nat) : Int) - 1)).toNat) default)).toNat) default) + 1)) ((s.used).set ((((s.free).getD (((((((s.free).length) : Nat) : Int) - 1)).toNat) default)).toNat) true) ((s.free).take (((((((s.free).length) : Nat) : Int) - 1)).toNat))), (Handle.mk ((s.free).getD (((((((s.free).length) : Nat) : Int) - 1)).toNat) default) ((s.gens.set ((((s.free).getD (((((((s.free).length) : Nat) : Int) - 1)).toNat) default)).toNat) ((s.gens.getD ((((s.free).getD (((((((s.free).length) : Nat) : Int) - 1)).toNat) default)).toNat) default) + 1)).getD ((((s.free).getD (((((((s.free).length) : Nat) : Int) - 1)).toNat) default)).toNat) default)), 0))))
def Gb (s : Slots) (h : Handle) : Slots × Int := (if (!(Fb s)) = true then ((Slots.mk ([]) ([]) ([])), 90) else (if (!(Tk s h)) = true then ((Slots.mk ([]) ([]) ([])), 91) else ((Slots.mk s.gens ((s.used).set ((h.slot).toNat) false) ((s.free) ++ ([h.slot] : List Int))), 0)))
def cO (n_ : Int) (x_1 : List Int) (x_2 : List Bool) : Nat → Nat → List Int → Nat × (List Int)
  | 0, x_6, x_7 => (x_6, x_7)
  | n_8 + 1, x_6, x_7 => (if ((x_6 : Nat) : Int) < n_ then (cO n_ x_1 x_2 n_8 (x_6 + 1) (x_7 ++ ([((n_ - 1) - ((x_6 : Nat) : Int))] : List Int))) else (x_6, x_7))
def aJ (n_ : Int) : Slots × Int := (if n_ < 1 then ((Slots.mk ([]) ([]) ([])), 2) else (if 64 < n_ then ((Slots.mk ([]) ([]) ([])), 2) else (Pn ((List.replicate ((n_).toNat) (default : Int)), (List.replicate ((n_).toNat) (default : Bool))) (fun x_1 x_2 => (Pn (cO n_ x_1 x_2 ((n_ - ((0 : Nat) : Int)).toNat + 1) 0 []) (fun x_6 x_7 => ((Slots.mk x_1 x_2 x_7), 0)))))))
end Go.Proofs.YtopjaeoklkpcpaaGreatDoor.Jd

namespace Go.Proofs.YtopjaeoklkpcpaaGreatDoor.Jd
open Go.Proofs.Tryz
open Go.Proofs
open Go.RowKit (Below)
set_option maxRecDepth 100000
set_option maxHeartbeats 8000000
set_option linter.unusedVariables false
set_option linter.unusedSimpArgs false
def Oa (r : Int) : Int := (if r = 3 then (zC .i64 (zC .i64 (zC .i64 0 4) 2) 1) else (if r = 2 then (zC .i64 (zC .i64 0 2) 1) else (if r = 1 then (zC .i64 0 1) else 0)))
def Eu (n_ : Int) : List Int := (if (Vq .i64 (Oa n_) 4) ≠ 0 then (if (Vq .i64 (Oa n_) 2) ≠ 0 then (if (Vq .i64 (Oa n_) 1) ≠ 0 then (((((((((([1] : List Int) ++ ([2] : List Int)) ++ ([3] : List Int)) ++ ([4] : List Int)) ++ ([5] : List Int)) ++ ([6] : List Int)) ++ ([7] : List Int)) ++ ([8] : List Int)) ++ ([9] : List Int)) ++ ([10] : List Int)) else (((((((([1] : List Int) ++ ([2] : List Int)) ++ ([3] : List Int)) ++ ([4] : List Int)) ++ ([5] : List Int)) ++ ([6] : List Int)) ++ ([7] : List Int)) ++ ([8] : List Int))) else (if (Vq .i64 (Oa n_) 1) ≠ 0 then (((((([1] : List Int) ++ ([5] : List Int)) ++ ([6] : List Int)) ++ ([7] : List Int)) ++ ([9] : List Int)) ++ ([10] : List Int)) else (((([1] : List Int) ++ ([5] : List Int)) ++ ([6] : List Int)) ++ ([7] : List Int)))) else (if (Vq .i64 (Oa n_) 2) ≠ 0 then (if (Vq .i64 (Oa n_) 1) ≠ 0 then (((((([2] : List Int) ++ ([3] : List Int)) ++ ([4] : List Int)) ++ ([8] : List Int)) ++ ([9] : List Int)) ++ ([10] : List Int)) else (((([2] : List Int) ++ ([3] : List Int)) ++ ([4] : List Int)) ++ ([8] : List Int))) else (if (Vq .i64 (Oa n_) 1) ≠ 0 then (([9] : List Int) ++ ([10] : List Int)) else [])))
def Qp (n_ : Int) (v : Int) : Nat → Nat → Except Bool Nat
  | 0, x_1 => .ok (x_1)
  | n_2 + 1, x_1 => (if ((x_1 : Nat) : Int) < ((((Eu n_).length) : Nat) : Int) then (if ((Eu n_).getD x_1 default) = v then .error true else (Qp n_ v n_2 (x_1 + 1))) else .ok (x_1))
def Mm (n_ : Int) (v : Int) : Bool := (Cc (Qp n_ v (((Eu n_).length) + 1) 0) (fun r => r) (fun x_1 => false))
end Go.Proofs.YtopjaeoklkpcpaaGreatDoor.Jd

namespace Go.Proofs.YtopjaeoklkpcpaaGreatDoor.Jd
open Go.Proofs.Tryz
open Go.Proofs
open Go.RowKit (Below)
set_option maxRecDepth 100000
set_option maxHeartbeats 8000000
set_option linter.unusedVariables false
set_option linter.unusedSimpArgs false
structure Bs where
  id : Int
  key : Az
  frm : Int
  to : Int
instance : Inhabited Bs := ⟨⟨default, default, default, default⟩⟩
instance : DecidableEq Bs := fun a b => decidable_of_iff (a.id = b.id ∧ a.key = b.key ∧ a.frm = b.frm ∧ a.to = b.to) ⟨fun h => by cases a; cases b; simp_all, fun h => by subst h; simp⟩
def Ob (key : Az) : Bool := (if 1 ≤ ((key.length : Nat) : Int) then decide (((key.length : Nat) : Int) ≤ 64) else false)
def Mn (n_ : Int) (least : Int) (most : Int) : Bool := (if least ≤ n_ then decide (n_ ≤ most) else false)
def bF (c : Bs) : Bool := (Mn c.id 1 1000000000)
def Tl (c : Bs) : Bool := (Ob c.key)
def Pb (c : Bs) : Bool := (if 0 ≤ c.frm then (if c.frm < c.to then decide (c.to ≤ 1000000000000) else false) else false)
def Nd (l : List Bs) (x_1 : Nat) (last_2 : Int) (x_3 : List Int) : Nat → Nat → Except Bool Nat
  | 0, x_8 => .ok (x_8)
  | n_9 + 1, x_8 => (if ((x_8 : Nat) : Int) < ((l.length : Nat) : Int) then (if (!(bF (l.getD x_8 default))) = true then .error false else (if (!(Tl (l.getD x_8 default))) = true then .error false else (if (!(Pb (l.getD x_8 default))) = true then .error false else (Nd l x_1 last_2 x_3 n_9 (x_8 + 1))))) else .ok (x_8))
def Ld (l : List Bs) : Nat → Nat → Int → List Int → Except Bool (Nat × Int × (List Int))
  | 0, x_1, last_2, x_3 => .ok (x_1, last_2, x_3)
  | n_4 + 1, x_1, last_2, x_3 => (if ((x_1 : Nat) : Int) < ((l.length : Nat) : Int) then (if ((l.getD x_1 default).id) ∈ x_3 then .error false else (if ((l.getD x_1 default).id) < last_2 then .error false else (Ld l n_4 (x_1 + 1) ((l.getD x_1 default).id) (x_3 ++ [((l.getD x_1 default).id)])))) else .ok (x_1, last_2, x_3))
def Js (l : List Bs) : Bool := (bA (Ld l (l.length + 1) 0 0 ([] : List Int)) (fun r => r) (fun x_1 last_2 x_3 => (if ((l.length : Nat) : Int) ≤ 4 then (Cc (Nd l x_1 last_2 x_3 (l.length + 1) 0) (fun r => r) (fun x_8 => true)) else false)))
def It (l : List Bs) (key : Az) (now : Int) (overlap : Int) (span : Int) : Nat → Nat → List Bs → Int → Nat × (List Bs) × Int
  | 0, x_1, out_2, x_3 => (x_1, out_2, x_3)
  | n_4 + 1, x_1, out_2, x_3 => (if ((x_1 : Nat) : Int) < ((l.length : Nat) : Int) then (if ((l.getD x_1 default).to) ≤ now then (It l key now overlap span n_4 (x_1 + 1) out_2 (((l.getD x_1 default).id) + 1)) else (if ((l.getD x_1 default).frm) < (if (now + overlap) < ((l.getD x_1 default).to) then (now + overlap) else ((l.getD x_1 default).to)) then (It l key now overlap span n_4 (x_1 + 1) (out_2 ++ ([(Bs.mk ((l.getD x_1 default).id) ((l.getD x_1 default).key) ((l.getD x_1 default).frm) (if (now + overlap) < ((l.getD x_1 default).to) then (now + overlap) else ((l.getD x_1 default).to)))] : List Bs)) (((l.getD x_1 default).id) + 1)) else (It l key now overlap span n_4 (x_1 + 1) out_2 (((l.getD x_1 default).id) + 1)))) else (x_1, out_2, x_3))
def Em (l : List Bs) (key : Az) (now : Int) (overlap : Int) (span : Int) : (List Bs) × Int × Int := (if (!(Js l)) = true then ([], 0, 110) else (if (!(Ob key)) = true then ([], 0, 50) else (if (!(Mn now 0 1000000000000)) = true then ([], 0, 2) else (if (!(Mn overlap 0 1000000000)) = true then ([], 0, 2) else (if (!(Mn span 1 1000000000)) = true then ([], 0, 2) else (if 1000000000000 < (now + span) then ([], 0, 2) else (kQ (It l key now overlap span (l.length + 1) 0 [] 1) (fun x_1 out_2 x_3 => (if 4 < ((((out_2 ++ ([(Bs.mk x_3 key now (now + span))] : List Bs)).length) : Nat) : Int) then ([], 0, 92) else (if 1000000000 < x_3 then ([], 0, 92) else ((out_2 ++ ([(Bs.mk x_3 key now (now + span))] : List Bs)), x_3, 0)))))))))))
end Go.Proofs.YtopjaeoklkpcpaaGreatDoor.Jd

namespace Go.Proofs.YtopjaeoklkpcpaaGreatDoor.Jd
open Go.Proofs.Tryz
open Go.Proofs
open Go.RowKit (Below)
set_option maxRecDepth 100000
set_option linter.unusedVariables false
set_option linter.unusedSimpArgs false
structure Au where
  addr : Int
  bits : Int
instance : Inhabited Au := ⟨⟨default, default⟩⟩
instance : DecidableEq Au := fun a b => decidable_of_iff (a.addr = b.addr ∧ a.bits = b.bits) ⟨fun h => by cases a; cases b; simp_all, fun h => by subst h; simp⟩
def Ux (a : Int) : Bool := (if 0 ≤ a then decide (a ≤ 4294967295) else false)
def Re (a : Int) : Bool := (if 0 ≤ a then decide (a ≤ 4294967295) else false)
def Pc (bits : Int) : Int := (kS .i64 1 (32 - bits))
def rRight (p : Au) : Bool := (if 0 ≤ p.bits then (if p.bits ≤ 32 then (if (Ux p.addr) = true then decide ((p.addr % (Pc p.bits)) = 0) else false) else false) else false)
def tN (p : Au) : Int := ((kS .i64 1 (32 - p.bits)) - 1)
def Po (p : Au) : Bool := (if 0 ≤ p.bits then (if p.bits ≤ 32 then (Re p.addr) else false) else false)
def iI (p : Au) : Bool := decide ((Vq .i64 p.addr (tN p)) = 0)
def Oc (p : Au) : Bool := (if (!(Po p)) = true then false else (if (!(iI p)) = true then false else true))
def Xd (a : Int) : Az × Int := (if (!(Re a)) = true then (([] : Az), 60) else ((Lib.join (((([(Lib.itoa (Vq .i64 (V8 .i64 a 24) 255))] : List Az) ++ ([(Lib.itoa (Vq .i64 (V8 .i64 a 16) 255))] : List Az)) ++ ([(Lib.itoa (Vq .i64 (V8 .i64 a 8) 255))] : List Az)) ++ ([(Lib.itoa (Vq .i64 (V8 .i64 a 0) 255))] : List Az)) ([46] : Az)), 0))
def Xe (t : Az) (most : Int) : Nat → Int → Nat → Except (Int × Bool) (Int × Nat)
  | 0, n_1, x_2 => .ok (n_1, x_2)
  | n_3 + 1, n_1, x_2 => (if x_2 < t.length then (if (((cG t x_2).1 : Nat) : Int) < 48 then .error (0, false) else (if 57 < (((cG t x_2).1 : Nat) : Int) then .error (0, false) else (if most < n_1 then .error (0, false) else (Xe t most n_3 ((n_1 * 10) + ((((cG t x_2).1 : Nat) : Int) - 48)) (x_2 + (cG t x_2).2))))) else .ok (n_1, x_2))
def Iu (t : Az) (most : Int) : Int × Bool := (Hr (Xe t most (t.length + 1) 0 0) (fun r => r) (fun n_1 x_2 => (if n_1 ≤ most then (n_1, decide ((Lib.itoa n_1) = t)) else (n_1, false))))
def Ig (s : Az) : Int × Int := (if ((Iu ((Lib.cut s ([46] : Az)).1) 255).2) = true then (if (!((Lib.cut s ([46] : Az)).2.2 == true)) = true then (0, 60) else (if ((Iu ((Lib.cut ((Lib.cut s ([46] : Az)).2.1) ([46] : Az)).1) 255).2) = true then (if (!((Lib.cut ((Lib.cut s ([46] : Az)).2.1) ([46] : Az)).2.2 == true)) = true then (0, 60) else (if ((Iu ((Lib.cut ((Lib.cut ((Lib.cut s ([46] : Az)).2.1) ([46] : Az)).2.1) ([46] : Az)).1) 255).2) = true then (if (!((Lib.cut ((Lib.cut ((Lib.cut s ([46] : Az)).2.1) ([46] : Az)).2.1) ([46] : Az)).2.2 == true)) = true then (0, 60) else (if ((Iu ((Lib.cut ((Lib.cut ((Lib.cut ((Lib.cut s ([46] : Az)).2.1) ([46] : Az)).2.1) ([46] : Az)).2.1) ([46] : Az)).1) 255).2) = true then (if (!((Lib.cut ((Lib.cut ((Lib.cut ((Lib.cut s ([46] : Az)).2.1) ([46] : Az)).2.1) ([46] : Az)).2.1) ([46] : Az)).2.2 == false)) = true then (0, 60) else ((zC .i64 (kS .i64 (zC .i64 (kS .i64 (zC .i64 (kS .i64 (zC .i64 (kS .i64 0 8) ((Iu ((Lib.cut s ([46] : Az)).1) 255).1)) 8) ((Iu ((Lib.cut ((Lib.cut s ([46] : Az)).2.1) ([46] : Az)).1) 255).1)) 8) ((Iu ((Lib.cut ((Lib.cut ((Lib.cut s ([46] : Az)).2.1) ([46] : Az)).2.1) ([46] : Az)).1) 255).1)) 8) ((Iu ((Lib.cut ((Lib.cut ((Lib.cut ((Lib.cut s ([46] : Az)).2.1) ([46] : Az)).2.1) ([46] : Az)).2.1) ([46] : Az)).1) 255).1)), 0)) else (0, 60))) else (0, 60))) else (0, 60))) else (0, 60))
def Mt (s : Az) : Au × Int := (if (!((Iu ((Lib.cut s ([47] : Az)).2.1) 32).2)) = true then ((Au.mk 0 0), 61) else (if ((Ig ((Lib.cut s ([47] : Az)).1)).2) ≠ 0 then ((Au.mk 0 0), 61) else (if (!(Oc (Au.mk ((Ig ((Lib.cut s ([47] : Az)).1)).1) ((Iu ((Lib.cut s ([47] : Az)).2.1) 32).1)))) = true then ((Au.mk 0 0), 61) else ((Au.mk ((Ig ((Lib.cut s ([47] : Az)).1)).1) ((Iu ((Lib.cut s ([47] : Az)).2.1) 32).1)), 0))))
end Go.Proofs.YtopjaeoklkpcpaaGreatDoor.Jd

namespace Go.Proofs.YtopjaeoklkpcpaaGreatDoor.Jd
open Go.Proofs.Tryz
open Go.Proofs
open Go.RowKit (Below)
set_option maxRecDepth 100000
set_option linter.unusedVariables false
set_option linter.unusedSimpArgs false
structure Ao where
  lo : Int
  hi : Int
instance : Inhabited Ao := ⟨⟨default, default⟩⟩
instance : DecidableEq Ao := fun a b => decidable_of_iff (a.lo = b.lo ∧ a.hi = b.hi) ⟨fun h => by cases a; cases b; simp_all, fun h => by subst h; simp⟩
structure Pp where
  addr : Int
  port : Int
instance : Inhabited Pp := ⟨⟨default, default⟩⟩
instance : DecidableEq Pp := fun a b => decidable_of_iff (a.addr = b.addr ∧ a.port = b.port) ⟨fun h => by cases a; cases b; simp_all, fun h => by subst h; simp⟩
def Pd (p : Ao) : Bool := (if 0 ≤ p.lo then (if p.lo ≤ p.hi then decide (p.hi ≤ 65535) else false) else false)
def Mh (p : Ao) : Bool := (if ¬ (p.lo ≤ p.hi) then false else (if ¬ (0 ≤ p.lo) then false else (if ¬ (p.hi ≤ 65535) then false else true)))
def Ih (p : Ao) : Az × Int := (if (!(Mh p)) = true then (([] : Az), 70) else (if p.lo = 0 ∧ p.hi = 65535 then (([42] : Az), 0) else (if p.lo = p.hi then ((Lib.itoa p.lo), 0) else ((((Lib.itoa p.lo) ++ ([45] : Az)) ++ (Lib.itoa p.hi)), 0))))
def eC (t : Az) : Nat → Int → Nat → Except Int (Int × Nat)
  | 0, n_1, x_2 => .ok (n_1, x_2)
  | n_3 + 1, n_1, x_2 => (if x_2 < t.length then (if ((n_1 * 10) + ((((cG t x_2).1 : Nat) : Int) - 48)) < 0 then .error (-1) else (if 65535 < ((n_1 * 10) + ((((cG t x_2).1 : Nat) : Int) - 48)) then .error (-1) else (eC t n_3 ((n_1 * 10) + ((((cG t x_2).1 : Nat) : Int) - 48)) (x_2 + (cG t x_2).2)))) else .ok (n_1, x_2))
def Cm (t : Az) : Int := (Hr (eC t (t.length + 1) 0 0) (fun r => r) (fun n_1 x_2 => n_1))
def aK (s : Az) : Ao × Int := (if ((Ih (Ao.mk 0 65535)).2) = 0 then (if ((Ih (Ao.mk 0 65535)).1) = s then ((Ao.mk 0 65535), 0) else (if ((Ih (Ao.mk (Cm s) (Cm s))).2) = 0 then (if ((Ih (Ao.mk (Cm s) (Cm s))).1) = s then ((Ao.mk (Cm s) (Cm s)), 0) else (if ((Ih (Ao.mk (Cm ((Lib.cut s ([45] : Az)).1)) (Cm ((Lib.cut s ([45] : Az)).2.1)))).2) = 0 then (if ((Ih (Ao.mk (Cm ((Lib.cut s ([45] : Az)).1)) (Cm ((Lib.cut s ([45] : Az)).2.1)))).1) = s then ((Ao.mk (Cm ((Lib.cut s ([45] : Az)).1)) (Cm ((Lib.cut s ([45] : Az)).2.1))), 0) else ((Ao.mk 0 0), 70)) else ((Ao.mk 0 0), 70))) else (if ((Ih (Ao.mk (Cm ((Lib.cut s ([45] : Az)).1)) (Cm ((Lib.cut s ([45] : Az)).2.1)))).2) = 0 then (if ((Ih (Ao.mk (Cm ((Lib.cut s ([45] : Az)).1)) (Cm ((Lib.cut s ([45] : Az)).2.1)))).1) = s then ((Ao.mk (Cm ((Lib.cut s ([45] : Az)).1)) (Cm ((Lib.cut s ([45] : Az)).2.1))), 0) else ((Ao.mk 0 0), 70)) else ((Ao.mk 0 0), 70)))) else (if ((Ih (Ao.mk (Cm s) (Cm s))).2) = 0 then (if ((Ih (Ao.mk (Cm s) (Cm s))).1) = s then ((Ao.mk (Cm s) (Cm s)), 0) else (if ((Ih (Ao.mk (Cm ((Lib.cut s ([45] : Az)).1)) (Cm ((Lib.cut s ([45] : Az)).2.1)))).2) = 0 then (if ((Ih (Ao.mk (Cm ((Lib.cut s ([45] : Az)).1)) (Cm ((Lib.cut s ([45] : Az)).2.1)))).1) = s then ((Ao.mk (Cm ((Lib.cut s ([45] : Az)).1)) (Cm ((Lib.cut s ([45] : Az)).2.1))), 0) else ((Ao.mk 0 0), 70)) else ((Ao.mk 0 0), 70))) else (if ((Ih (Ao.mk (Cm ((Lib.cut s ([45] : Az)).1)) (Cm ((Lib.cut s ([45] : Az)).2.1)))).2) = 0 then (if ((Ih (Ao.mk (Cm ((Lib.cut s ([45] : Az)).1)) (Cm ((Lib.cut s ([45] : Az)).2.1)))).1) = s then ((Ao.mk (Cm ((Lib.cut s ([45] : Az)).1)) (Cm ((Lib.cut s ([45] : Az)).2.1))), 0) else ((Ao.mk 0 0), 70)) else ((Ao.mk 0 0), 70))))
def AX8 (p : Ao) (q : Ao) : Ao × Bool := (if (!(Mh p)) = true then ((Ao.mk 0 0), false) else (if (!(Mh q)) = true then ((Ao.mk 0 0), false) else (if (!(Mh (Ao.mk (if p.lo < q.lo then q.lo else p.lo) (if q.hi < p.hi then q.hi else p.hi)))) = true then ((Ao.mk 0 0), false) else ((Ao.mk (if p.lo < q.lo then q.lo else p.lo) (if q.hi < p.hi then q.hi else p.hi)), true))))
def aL (t : Pp) : Az × Int := (if ((Xd t.addr).2) ≠ 0 then (([] : Az), 71) else (if t.port < 1 then (([] : Az), 71) else (if 65535 < t.port then (([] : Az), 71) else (((((Xd t.addr).1) ++ ([58] : Az)) ++ (Lib.itoa t.port)), 0))))
def kZ (s : Az) : Pp × Int := (if ((Ig ((Lib.cut s ([58] : Az)).1)).2) ≠ 0 then ((Pp.mk 0 0), 71) else (if ((aL (Pp.mk ((Ig ((Lib.cut s ([58] : Az)).1)).1) (Cm ((Lib.cut s ([58] : Az)).2.1)))).2) ≠ 0 then ((Pp.mk 0 0), 71) else (if ((aL (Pp.mk ((Ig ((Lib.cut s ([58] : Az)).1)).1) (Cm ((Lib.cut s ([58] : Az)).2.1)))).1) ≠ s then ((Pp.mk 0 0), 71) else ((Pp.mk ((Ig ((Lib.cut s ([58] : Az)).1)).1) (Cm ((Lib.cut s ([58] : Az)).2.1))), 0))))
end Go.Proofs.YtopjaeoklkpcpaaGreatDoor.Jd

namespace Go.Proofs.YtopjaeoklkpcpaaGreatDoor.Jd
open Go.Proofs.Tryz
open Go.Proofs
open Go.RowKit (Below)
set_option maxRecDepth 100000
set_option maxHeartbeats 8000000
set_option linter.unusedVariables false
set_option linter.unusedSimpArgs false
def Kd (s : Az) : Nat → Nat → Except Bool Nat
  | 0, x_1 => .ok (x_1)
  | n_2 + 1, x_1 => (if x_1 < s.length then (if (((cG s x_1).1 : Nat) : Int) < 32 then .error false else (if 126 < (((cG s x_1).1 : Nat) : Int) then .error false else (Kd s n_2 (x_1 + (cG s x_1).2)))) else .ok (x_1))
def Yw (s : Az) : Bool := (Cc (Kd s (s.length + 1) 0) (fun r => r) (fun x_1 => true))
structure Bf where
  allow : Bool
  pfx : Au
  prt : Ao
instance : Inhabited Bf := ⟨⟨default, default, default⟩⟩
instance : DecidableEq Bf := fun a b => decidable_of_iff (a.allow = b.allow ∧ a.pfx = b.pfx ∧ a.prt = b.prt) ⟨fun h => by cases a; cases b; simp_all, fun h => by subst h; simp⟩
def Ja (r : Bf) : Bool := (if (Oc r.pfx) = true then (Mh r.prt) else false)
def Ii (l : List Bf) : Nat → Nat → Except Bool Nat
  | 0, x_1 => .ok (x_1)
  | n_2 + 1, x_1 => (if ((x_1 : Nat) : Int) < ((l.length : Nat) : Int) then (if (!(Ja (l.getD x_1 default))) = true then .error false else (Ii l n_2 (x_1 + 1))) else .ok (x_1))
def Fm (l : List Bf) : Bool := (if ((l.length : Nat) : Int) ≤ 16 then (Cc (Ii l (l.length + 1) 0) (fun r => r) (fun x_1 => true)) else false)
def Cg (l : List Bf) (at_ : Int) (r : Bf) : (List Bf) × Int := (if (!(Fm l)) = true then ([], 81) else (if (!(Ja r)) = true then ([], 80) else (if at_ < 0 then ([], 82) else (if ((l.length : Nat) : Int) < at_ then ([], 82) else (if 16 ≤ ((l.length : Nat) : Int) then ([], 82) else ((Ms (l) at_.toNat r), 0))))))
def Ci (l : List Bf) (at_ : Int) : (List Bf) × Int := (if (!(Fm l)) = true then ([], 81) else (if at_ < 0 then ([], 82) else (if ((l.length : Nat) : Int) ≤ at_ then ([], 82) else ((delL (l) at_.toNat (at_ + 1).toNat), 0))))
def iJ (r : Bf) : Bool := (if (rRight r.pfx) = true then (Pd r.prt) else false)
def Jt (l : List Bf) : Nat → Nat → Except Bool Nat
  | 0, i_1 => .ok (i_1)
  | n_2 + 1, i_1 => (if ((i_1 : Nat) : Int) < ((l.length : Nat) : Int) then (if (!(iJ (l.getD i_1 default))) = true then .error false else (Jt l n_2 (i_1 + 1))) else .ok (i_1))
def Mu (l : List Bf) : Bool := (Cc (Jt l (l.length + 1) 0) (fun r => r) (fun i_1 => decide (((l.length : Nat) : Int) ≤ 16)))
def Ij (l : List Bf) (at_ : Int) (r : Bf) : (List Bf) × Int := (if (!(Mu l)) = true then ([], 81) else (if (!(iJ r)) = true then ([], 80) else (if at_ < 0 then ([], 82) else (if ((l.length : Nat) : Int) < at_ then ([], 82) else (if 16 ≤ ((l.length : Nat) : Int) then ([], 82) else ((((l.take ((at_).toNat)) ++ ([r] : List Bf)) ++ (l.drop ((at_).toNat))), 0))))))
def Ik (l : List Bf) (at_ : Int) : (List Bf) × Int := (if (!(Mu l)) = true then ([], 81) else (if at_ < 0 then ([], 82) else (if ((l.length : Nat) : Int) ≤ at_ then ([], 82) else (((l.take ((at_).toNat)) ++ (l.drop (((at_ + 1)).toNat))), 0))))
def Ke (a : List Bf) (b : List Bf) : Nat → Nat → Except Bool Nat
  | 0, i_1 => .ok (i_1)
  | n_2 + 1, i_1 => (if ((i_1 : Nat) : Int) < ((a.length : Nat) : Int) then (if ¬ (((a.getD i_1 default).allow) = ((b.getD i_1 default).allow) ∧ ((a.getD i_1 default).pfx.addr) = ((b.getD i_1 default).pfx.addr) ∧ ((a.getD i_1 default).pfx.bits) = ((b.getD i_1 default).pfx.bits) ∧ ((a.getD i_1 default).prt.lo) = ((b.getD i_1 default).prt.lo) ∧ ((a.getD i_1 default).prt.hi) = ((b.getD i_1 default).prt.hi)) then .error false else (Ke a b n_2 (i_1 + 1))) else .ok (i_1))
def eD (a : List Bf) (b : List Bf) : Bool := (if ((a.length : Nat) : Int) ≠ ((b.length : Nat) : Int) then false else (Cc (Ke a b (a.length + 1) 0) (fun r => r) (fun i_1 => true)))
def Kf (l : List Bf) : List Bf := (l.take (min l.length 18))
end Go.Proofs.YtopjaeoklkpcpaaGreatDoor.Jd

namespace Go.Proofs.YtopjaeoklkpcpaaGreatDoor.Jd
open Go.Proofs.Tryz
open Go.Proofs
open Go.RowKit (Below)
set_option maxRecDepth 100000
set_option maxHeartbeats 8000000
set_option linter.unusedVariables false
set_option linter.unusedSimpArgs false
def Mv (key : Az) : Bool := (if 1 ≤ ((key.length : Nat) : Int) then decide (((key.length : Nat) : Int) ≤ 64) else false)
def Fr (l : List Bs) : Nat → Nat → Except Bool Nat
  | 0, i_1 => .ok (i_1)
  | n_2 + 1, i_1 => (if ((i_1 : Nat) : Int) < ((l.length : Nat) : Int) then (if ((l.getD i_1 default).id) < 1 then .error false else (if 1000000000 < ((l.getD i_1 default).id) then .error false else (if 0 < ((i_1 : Nat) : Int) then (if ((l.getD i_1 default).id) ≤ ((l.getD (((((i_1 : Nat) : Int) - 1)).toNat) default).id) then .error false else (if (!(Mv ((l.getD i_1 default).key))) = true then .error false else (if ((l.getD i_1 default).frm) < 0 then .error false else (if ((l.getD i_1 default).to) ≤ ((l.getD i_1 default).frm) then .error false else (if 1000000000000 < ((l.getD i_1 default).to) then .error false else (Fr l n_2 (i_1 + 1))))))) else (if (!(Mv ((l.getD i_1 default).key))) = true then .error false else (if ((l.getD i_1 default).frm) < 0 then .error false else (if ((l.getD i_1 default).to) ≤ ((l.getD i_1 default).frm) then .error false else (if 1000000000000 < ((l.getD i_1 default).to) then .error false else (Fr l n_2 (i_1 + 1))))))))) else .ok (i_1))
def Lj (l : List Bs) : Bool := (Cc (Fr l (l.length + 1) 0) (fun r => r) (fun i_1 => decide (((l.length : Nat) : Int) ≤ 4)))
def Ji (l : List Bs) (key : Az) (now : Int) (overlap : Int) (span : Int) : Nat → List Bs → Int → Nat → (List Bs) × Int × Nat
  | 0, out_1, id_2, i_3 => (out_1, id_2, i_3)
  | n_4 + 1, out_1, id_2, i_3 => (if ((i_3 : Nat) : Int) < ((l.length : Nat) : Int) then (if now < ((l.getD i_3 default).to) then (if ((l.getD i_3 default).frm) < (if (now + overlap) < ((l.getD i_3 default).to) then (now + overlap) else ((l.getD i_3 default).to)) then (Ji l key now overlap span n_4 (out_1 ++ ([(Bs.mk ((l.getD i_3 default).id) ((l.getD i_3 default).key) ((l.getD i_3 default).frm) (if (now + overlap) < ((l.getD i_3 default).to) then (now + overlap) else ((l.getD i_3 default).to)))] : List Bs)) (((l.getD i_3 default).id) + 1) (i_3 + 1)) else (Ji l key now overlap span n_4 out_1 (((l.getD i_3 default).id) + 1) (i_3 + 1))) else (Ji l key now overlap span n_4 out_1 (((l.getD i_3 default).id) + 1) (i_3 + 1))) else (out_1, id_2, i_3))
def Kv (l : List Bs) (key : Az) (now : Int) (overlap : Int) (span : Int) : (List Bs) × Int × Int := (if (!(Lj l)) = true then ([], 0, 110) else (if (!(Mv key)) = true then ([], 0, 50) else (if now < 0 then ([], 0, 2) else (if 1000000000000 < now then ([], 0, 2) else (if overlap < 0 then ([], 0, 2) else (if 1000000000 < overlap then ([], 0, 2) else (if span < 1 then ([], 0, 2) else (if 1000000000 < span then ([], 0, 2) else (if 1000000000000 < (now + span) then ([], 0, 2) else (kQ (Ji l key now overlap span (l.length + 1) [] 1 0) (fun out_1 id_2 i_3 => (if 4 < ((((out_1 ++ ([(Bs.mk id_2 key now (now + span))] : List Bs)).length) : Nat) : Int) then ([], 0, 92) else (if 1000000000 < id_2 then ([], 0, 92) else ((out_1 ++ ([(Bs.mk id_2 key now (now + span))] : List Bs)), id_2, 0))))))))))))))
def Kg (a : List Bs) (b : List Bs) : Nat → Nat → Except Bool Nat
  | 0, i_1 => .ok (i_1)
  | n_2 + 1, i_1 => (if ((i_1 : Nat) : Int) < ((a.length : Nat) : Int) then (if ¬ (((a.getD i_1 default).id) = ((b.getD i_1 default).id) ∧ ((a.getD i_1 default).key) = ((b.getD i_1 default).key) ∧ ((a.getD i_1 default).frm) = ((b.getD i_1 default).frm) ∧ ((a.getD i_1 default).to) = ((b.getD i_1 default).to)) then .error false else (Kg a b n_2 (i_1 + 1))) else .ok (i_1))
def eE (a : List Bs) (b : List Bs) : Bool := (if ((a.length : Nat) : Int) ≠ ((b.length : Nat) : Int) then false else (Cc (Kg a b (a.length + 1) 0) (fun r => r) (fun i_1 => true)))
def Le (s : Az) : Nat → Nat → Except Bool Nat
  | 0, i_1 => .ok (i_1)
  | n_2 + 1, i_1 => (if ((i_1 : Nat) : Int) < ((s.length : Nat) : Int) then (if (((s.getD i_1 default).toNat : Nat) : Int) < 32 then .error false else (if 126 < (((s.getD i_1 default).toNat : Nat) : Int) then .error false else (Le s n_2 (i_1 + 1)))) else .ok (i_1))
def cP (s : Az) : Bool := (Cc (Le s (s.length + 1) 0) (fun r => r) (fun i_1 => true))
def Yx (s : Az) : Bool := (if ((s.length : Nat) : Int) ≤ 64 then (cP s) else false)
def Tm (n_ : Int) (v : Int) : Bool := (if v = 9 then (if 1 ≤ n_ then decide (n_ ≤ 3) else false) else (if v = 10 then (if 1 ≤ n_ then decide (n_ ≤ 3) else false) else (if v = 2 then (if n_ = 2 then true else decide (n_ = 3)) else (if v = 3 then (if n_ = 2 then true else decide (n_ = 3)) else (if v = 4 then (if n_ = 2 then true else decide (n_ = 3)) else (if v = 8 then (if n_ = 2 then true else decide (n_ = 3)) else (if v = 1 then decide (n_ = 3) else (if v = 5 then decide (n_ = 3) else (if v = 6 then decide (n_ = 3) else (if v = 7 then decide (n_ = 3) else false))))))))))
end Go.Proofs.YtopjaeoklkpcpaaGreatDoor.Jd

namespace Go.Proofs.YtopjaeoklkpcpaaGreatDoor.Jd
open Go.Proofs.Tryz
open Go.Proofs
open Go.RowKit (Below)
set_option maxRecDepth 100000
set_option maxHeartbeats 8000000
set_option linter.unusedVariables false
set_option linter.unusedSimpArgs false
def eF (s : Az) : Bool := (if ((s.length : Nat) : Int) ≤ 64 then (Yw s) else false)
end Go.Proofs.YtopjaeoklkpcpaaGreatDoor.Jd

namespace Go.Proofs.YtopjaeoklkpcpaaGreatDoor.Jd
open Go.Proofs.Tryz
open Go.Proofs
open Go.RowKit (Below)
set_option maxRecDepth 100000
set_option maxHeartbeats 8000000
set_option linter.unusedVariables false
set_option linter.unusedSimpArgs false
structure Aa where
  handle : Handle
  name : Az
  state : Int
  version : Int
  rules : List Bf
  creds : List Bs
  deadline : Int
instance : Inhabited Aa := ⟨⟨default, default, default, default, default, default, default⟩⟩
instance : DecidableEq Aa := fun a b => decidable_of_iff (a.handle = b.handle ∧ a.name = b.name ∧ a.state = b.state ∧ a.version = b.version ∧ a.rules = b.rules ∧ a.creds = b.creds ∧ a.deadline = b.deadline) ⟨fun h => by cases a; cases b; simp_all, fun h => by subst h; simp⟩
structure Ab where
  slots : Slots
  l : List Aa
  seq : Int
instance : Inhabited Ab := ⟨⟨default, default, default⟩⟩
instance : DecidableEq Ab := fun a b => decidable_of_iff (a.slots = b.slots ∧ a.l = b.l ∧ a.seq = b.seq) ⟨fun h => by cases a; cases b; simp_all, fun h => by subst h; simp⟩
structure Ak where
  verb : Int
  name : Az
  want : Int
  at_ : Int
  rule : Bf
  key : Az
  n : Int
  m : Int
instance : Inhabited Ak := ⟨⟨default, default, default, default, default, default, default, default⟩⟩
instance : DecidableEq Ak := fun a b => decidable_of_iff (a.verb = b.verb ∧ a.name = b.name ∧ a.want = b.want ∧ a.at_ = b.at_ ∧ a.rule = b.rule ∧ a.key = b.key ∧ a.n = b.n ∧ a.m = b.m) ⟨fun h => by cases a; cases b; simp_all, fun h => by subst h; simp⟩
structure Cs where
  err : Int
  seq : Int
  handle : Handle
  version : Int
  state : Int
instance : Inhabited Cs := ⟨⟨default, default, default, default, default⟩⟩
instance : DecidableEq Cs := fun a b => decidable_of_iff (a.err = b.err ∧ a.seq = b.seq ∧ a.handle = b.handle ∧ a.version = b.version ∧ a.state = b.state) ⟨fun h => by cases a; cases b; simp_all, fun h => by subst h; simp⟩
/-- Where a tenant's two slices lie. -/
structure TA where
  ra : Option Addr
  rc : Nat
  ca : Option Addr
  cc : Nat
instance : Inhabited TA := ⟨⟨none, 0, none, 0⟩⟩
def Cv (l : List Aa) : Prop := ∀ i, i < l.length → (l.getD i default).rules.length ≤ 1000 ∧ (l.getD i default).creds.length ≤ 1000
def Ho (s : Az) : Bool := (if s ≠ ([] : Az) then (if ((s.length : Nat) : Int) ≤ 40 then (eF s) else false) else false)
def Ju (t : (Aa × Int)) : Bool := (if 1 ≤ t.1.version then decide (t.1.version ≤ t.2) else false)
def Jv (t : (Aa × Int)) : Bool := (if 1 ≤ t.1.state then (if t.1.state ≤ 3 then (if 0 ≤ t.1.deadline then (if t.1.deadline ≤ 1000000000000 then (if t.1.deadline = 0 then true else decide (t.1.state = 3)) else false) else false) else false) else false)
def Od (t : (Aa × Int)) : Bool := (if (Ho t.1.name) = true then (if (Fm t.1.rules) = true then (Js t.1.creds) else false) else false)
def Ea (r : Ab) (name : Az) : Nat → Nat → Except (Int × Bool) Nat
  | 0, x_1 => .ok (x_1)
  | n_2 + 1, x_1 => (if ((x_1 : Nat) : Int) < ((r.l.length : Nat) : Int) then (if ((r.l.getD x_1 default).name) = name then .error (((x_1 : Nat) : Int), true) else (Ea r name n_2 (x_1 + 1))) else .ok (x_1))
def Ap (r : Ab) (name : Az) : Int × Bool := (Cc (Ea r name (r.l.length + 1) 0) (fun r => r) (fun x_1 => (0, false)))
def Nf (r : Ab) : Nat → Nat → List Az → Except Bool (Nat × (List Az))
  | 0, x_1, x_2 => .ok (x_1, x_2)
  | n_3 + 1, x_1, x_2 => (if ((x_1 : Nat) : Int) < ((r.l.length : Nat) : Int) then (if ¬ (((r.l.getD x_1 default).handle.slot) = (((Dz r.slots).getD x_1 default).slot) ∧ ((r.l.getD x_1 default).handle.gen) = (((Dz r.slots).getD x_1 default).gen)) then .error false else (if ((r.l.getD x_1 default).name) ∈ x_2 then .error false else (if (!(Ju ((r.l.getD x_1 default), r.seq))) = true then .error false else (if (!(Jv ((r.l.getD x_1 default), r.seq))) = true then .error false else (if (!(Od ((r.l.getD x_1 default), r.seq))) = true then .error false else (Nf r n_3 (x_1 + 1) (x_2 ++ [((r.l.getD x_1 default).name)]))))))) else .ok (x_1, x_2))
def Gj (r : Ab) : Bool := (if (!(Fb r.slots)) = true then false else (if r.seq < 0 then false else (if 1000000000000 < r.seq then false else (if ((((Dz r.slots).length) : Nat) : Int) ≠ ((r.l.length : Nat) : Int) then false else (Hr (Nf r (r.l.length + 1) 0 ([] : List Az)) (fun r => r) (fun x_1 x_2 => true))))))
end Go.Proofs.YtopjaeoklkpcpaaGreatDoor.Jd

namespace Go.Proofs.YtopjaeoklkpcpaaGreatDoor.Jd
open Go.Proofs.Tryz
set_option linter.unusedVariables false
set_option linter.unusedSimpArgs false
theorem Uy {α : Type} [Inhabited α] (l : List α) (k : Nat) (h : k < l.length) : l.drop k = l.getD k default :: l.drop (k + 1) := by
  rw [List.drop_eq_getElem_cons h];simp [List.getD, h]
theorem Kh {α : Type} (l : List α) (k : Nat) (h : ¬ k < l.length) : l.drop k = [] := List.drop_of_length_le z4
theorem Iv {n a b : Int} : Mn n a b = true ↔ a ≤ n ∧ n ≤ b := by
  unfold Mn;split <;> simp <;> omega
theorem lA {n a b : Int} (h : Mn n a b = true) : a ≤ n ∧ n ≤ b := Iv.1 h
theorem eG {key : Az} : Ob key = true ↔ 1 ≤ key.length ∧ key.length ≤ 64 := by
  unfold Ob;split <;> simp <;> omega
def tP (c : Bs) : Prop := (1 ≤ c.id ∧ c.id ≤ 1000000000) ∧ (1 ≤ c.key.length ∧ c.key.length ≤ 64) ∧ 0 ≤ c.frm ∧ c.frm < c.to ∧ c.to ≤ 1000000000000
theorem tQ {c : Bs} : (bF c && Tl c && Pb c) = true ↔ tP c := by
  unfold bF Tl Pb tP;rw [Bool.and_eq_true, Bool.and_eq_true, Iv, eG];constructor
  · rintro ⟨⟨h1, h2⟩, h3⟩;refine ⟨h1, h2, ?_⟩;split at h3
    · split at h3
      · exact ⟨‹_›, ‹_›, by simpa using h3⟩
      · cases h3
    · cases h3
  · rintro ⟨h1, h2, h3, h4, h5⟩;exact ⟨⟨h1, h2⟩, by rw [if_pos h3, if_pos h4]; simpa using h5⟩
def Tn (l : List Bs) : Prop := l.length ≤ 4 ∧ (∀ c ∈ l, tP c) ∧ l.Pairwise fun a b => a.id < b.id
theorem Yy (l : List Bs) (a : Nat) (b : Int) (c : List Int) : ∀ n k, l.length < n + k → Cc (Nd l a b c n k) (fun r => r) (fun _ => true) = (l.drop k).all fun c => bF c && Tl c && Pb c
  | 0, k, h => by
    rw [Kh l k z4];rfl
  | n + 1, k, h => by
    rw [Nd];by_cases hk : k < l.length
    · rw [if_pos z4, Uy l k hk, List.all_cons];cases h1 : bF (l.getD k default)
      · simp [Cc]
      · cases h2 : Tl (l.getD k default)
        · simp [Cc]
        · cases h3 : Pb (l.getD k default)
          · simp [Cc]
          · simpa using Yy l a b c n (k + 1) z4
    · rw [if_neg z4, Kh l k hk];rfl
def Tp : Int → List Int → List Bs → Bool
  | _, _, [] => true
  | last, seen, c :: r => if c.id ∈ seen then false else if c.id < last then false else Tp c.id (seen ++ [c.id]) r
theorem Yz (l : List Bs) (B : Nat → Int → List Int → Bool) (b : Bool) (hB : ∀ x y z, B x y z = b) : ∀ n k last seen, l.length < n + k → bA (Ld l n k last seen) (fun r => r) B = (Tp last seen (l.drop k) && b)
  | 0, k, last, seen, h => by
    rw [Kh l k z4];simp [Ld, bA, Tp, hB]
  | n + 1, k, last, seen, h => by
    rw [Ld];by_cases hk : k < l.length
    · rw [if_pos z4, Uy l k hk, Tp];by_cases h1 : (l.getD k default).id ∈ seen
      · rw [if_pos h1, if_pos h1]; simp [bA]
      · rw [if_neg h1, if_neg h1];by_cases h2 : (l.getD k default).id < last
        · rw [if_pos h2, if_pos h2]; simp [bA]
        · rw [if_neg h2, if_neg h2];exact Yz l B b hB n (k + 1) _ _ z4
    · rw [if_neg z4, Kh l k hk];simp [bA, Tp, hB]
theorem eH : ∀ (xs : List Bs) (last : Int) (seen : List Int), (∀ s ∈ seen, s ≤ last) → (Tp last seen xs = true ↔ (∀ c ∈ xs, last ≤ c.id ∧ c.id ∉ seen) ∧ xs.Pairwise fun a b => a.id < b.id)
  | [], last, seen, _ => by simp [Tp]
  | c :: r, last, seen, hs => by
    rw [Tp];by_cases h1 : c.id ∈ seen
    · rw [if_pos h1];exact ⟨nofun, fun ⟨h, _⟩ => absurd h1 (h c List.mem_cons_self).2⟩
    · rw [if_neg h1];by_cases h2 : c.id < last
      · rw [if_pos h2];exact ⟨nofun, fun ⟨h, _⟩ => by have := (h c List.mem_cons_self).1; omega⟩
      · rw [if_neg h2, eH r c.id (seen ++ [c.id]) (fun s hm => by
          rcases List.mem_append.1 hm with hm | hm
          · have := hs s hm; omega
          · have : s = c.id := by simpa using hm
            omega), List.pairwise_cons]
        constructor
        · rintro ⟨g1, g2⟩;have g3 : ∀ d ∈ r, c.id < d.id := fun d hd => by
            obtain ⟨a1, a2⟩ := g1 d hd;have : d.id ≠ c.id := fun e => a2 (by simp [e])
            omega
          refine ⟨fun d hd => ?_, g3, g2⟩;rcases List.mem_cons.1 hd with rfl | hd
          · exact ⟨by omega, h1⟩
          · obtain ⟨a1, a2⟩ := g1 d hd;exact ⟨by omega, fun hm => a2 (List.mem_append_left _ hm)⟩
        · rintro ⟨g1, g2, g3⟩;refine ⟨fun d hd => ?_, g3⟩;have := g2 d hd;refine ⟨by omega, fun hm => ?_⟩;rcases List.mem_append.1 hm with hm | hm
          · have := hs _ hm; omega
          · have : d.id = c.id := by simpa using hm
            omega
theorem Lf {l : List Bs} : Js l = true ↔ Tn l := by
  unfold Js Tn;rw [Yz l _ (decide (((l.length : Nat) : Int) ≤ 4) && l.all fun c => bF c && Tl c && Pb c) (fun x y z => by
    by_cases h : ((l.length : Nat) : Int) ≤ 4
    · rw [if_pos h, Yy l x y z _ _ z4];simp [h]
    · rw [if_neg h]; simp [h]) _ _ _ _ z4]
  rw [List.drop_zero, Bool.and_eq_true, Bool.and_eq_true, eH l 0 [] Gu, List.all_eq_true, decide_eq_true_eq];constructor
  · rintro ⟨⟨_, h2⟩, h3, h4⟩;exact ⟨by omega, fun c hc => tQ.1 (h4 c hc), h2⟩
  · rintro ⟨h1, h2, h3⟩;exact ⟨⟨fun c hc => ⟨by have := (h2 c hc).1; omega, by simp⟩, h3⟩, by omega, fun c hc => tQ.2 (h2 c hc)⟩
def Xf (l : List Bs) : Prop := ∀ k : Nat, 0 ≤ (l.getD k default).id ∧ (l.getD k default).id ≤ 1000000000
theorem Xf.id {l : List Bs} (h : Xf l) (k : Nat) : 0 ≤ (l.getD k default).id ∧ (l.getD k default).id ≤ 1000000000 := h k
theorem nZ {α : Type} [Inhabited α] (l : List α) (k : Nat) : l.getD k default ∈ l ∨ l.getD k default = default := by
  by_cases h : k < l.length
  · left; simp [List.getD, h]
  · right; simp [List.getD, h]
theorem eJ {l : List Bs} (h : Js l = true) : Xf l := fun k => by
  obtain ⟨_, h2, _⟩ := Lf.1 h;rcases nZ l k with hm | hm
  · have := (h2 _ hm).1; omega
  · rw [hm];show 0 ≤ (0 : Int) ∧ (0 : Int) ≤ _
    omega
theorem eK {l : List Bs} (hl : Xf l) (key : Az) (now overlap span : Int) : ∀ n k out id, 0 ≤ id → 0 ≤ (It l key now overlap span n k out id).2.2
  | 0, k, out, id, h => h
  | n + 1, k, out, id, h => by
    have := hl.id k;rw [It]
    repeat' split
    all_goals first | exact h | exact eK hl key now overlap span n _ _ _ z4
theorem tR (l : List Bs) (key : Az) (now overlap span : Int) : (Em l key now overlap span).2.2 = 0 → (0 ≤ now ∧ now ≤ 1000000000000) ∧ (0 ≤ overlap ∧ overlap ≤ 1000000000) ∧ (1 ≤ span ∧ span ≤ 1000000000) ∧ now + span ≤ 1000000000000 ∧ 0 ≤ (Em l key now overlap span).2.1 ∧ (Em l key now overlap span).2.1 ≤ 1000000000 := by
  unfold Em;cases h1 : Js l
  · simp
  · have hid := eK (eJ h1) key now overlap span (l.length + 1) 0 [] 1 z4;cases h2 : Ob key
    · simp
    · cases h3 : Mn now 0 1000000000000
      · simp
      · cases h4 : Mn overlap 0 1000000000
        · simp
        · cases h5 : Mn span 1 1000000000
          · simp
          · intro h;have g3 := Iv.1 h3;have g4 := Iv.1 h4;have g5 := Iv.1 h5;simp only [kQ, Bool.not_true, Bool.false_eq_true, if_false] at h ⊢;generalize It l key now overlap span (l.length + 1) 0 [] 1 = q at h hid ⊢;by_cases h6 : 1000000000000 < now + span
            · simp [h6] at h
            · rw [if_neg h6] at h ⊢;split at h
              · simp at h
              · split at h
                · simp at h
                · rename_i g7 g8
                  rw [if_neg g7, if_neg g8];exact ⟨g3, g4, g5, by omega, hid, Int.not_lt.1 g8⟩
end Go.Proofs.YtopjaeoklkpcpaaGreatDoor.Jd

namespace Go.Proofs.YtopjaeoklkpcpaaGreatDoor.Jd
open Go.Proofs.Tryz
set_option linter.unusedVariables false
set_option linter.unusedSimpArgs false
theorem iK {a : Int} (h : Ux a = true) : 0 ≤ a ∧ a ≤ 4294967295 := by
  unfold Ux at h; split at h
  · exact ⟨‹_›, by simpa using h⟩
  · cases h
theorem oA {a : Int} (h : Re a = true) : 0 ≤ a ∧ a ≤ 4294967295 := by
  unfold Re at h; split at h
  · exact ⟨‹_›, by simpa using h⟩
  · cases h
theorem iL {bits : Int} (h : 0 ≤ bits ∧ bits ≤ 32) : Pc bits = 2 ^ (32 - bits).toNat := by
  obtain ⟨n, hn⟩ : ∃ n : Nat, bits = 32 - (n : Int) := ⟨(32 - bits).toNat, by omega⟩
  have h1 : (32 - bits).toNat = n := by omega
  have h2 : n ≤ 32 := by omega
  unfold Pc kS;rw [h1, show min n IntKind.i64.bits = n from by show min n 64 = n; omega, Int.one_mul];apply Ta;have h3 : (2 : Int) ^ n ≤ 2 ^ 32 := nT h2;have h4 : (0 : Int) < 2 ^ n := Int.pow_pos z4;omega
theorem eL {bits : Int} (h : 0 ≤ bits ∧ bits ≤ 32) : 1 ≤ Pc bits ∧ Pc bits ≤ 4294967296 := by
  rw [iL h];have h3 : (2 : Int) ^ (32 - bits).toNat ≤ 2 ^ 32 := nT z4;have h4 : (0 : Int) < 2 ^ (32 - bits).toNat := Int.pow_pos z4;omega
theorem rRight_t {p : Au} (h : rRight p = true) : 0 ≤ p.bits ∧ p.bits ≤ 32 ∧ 0 ≤ p.addr ∧ p.addr ≤ 4294967295 := by
  unfold rRight at h;split at h
  · split at h
    · split at h
      · have := iK ‹_›; omega
      · cases h
    · cases h
  · cases h
theorem eM {p : Au} (h : Po p = true) : 0 ≤ p.bits ∧ p.bits ≤ 32 ∧ 0 ≤ p.addr ∧ p.addr ≤ 4294967295 := by
  unfold Po at h;split at h
  · split at h
    · have := oA h; omega
    · cases h
  · cases h
theorem G0 {p : Au} (h : Oc p = true) : 0 ≤ p.bits ∧ p.bits ≤ 32 ∧ 0 ≤ p.addr ∧ p.addr ≤ 4294967295 := by
  apply eM;unfold Oc at h;cases hs : Po p
  · simp [hs] at h
  · rfl
end Go.Proofs.YtopjaeoklkpcpaaGreatDoor.Jd

namespace Go.Proofs.YtopjaeoklkpcpaaGreatDoor.Jd
open Go.Proofs.Tryz
set_option linter.unusedVariables false
set_option linter.unusedSimpArgs false
theorem wR {p : Ao} (h : Pd p = true) : 0 ≤ p.lo ∧ p.lo ≤ p.hi ∧ p.hi ≤ 65535 := by
  unfold Pd at h;split at h
  · split at h
    · simp at h; omega
    · cases h
  · cases h
theorem G1 {p : Ao} (h : Mh p = true) : 0 ≤ p.lo ∧ p.lo ≤ p.hi ∧ p.hi ≤ 65535 := by
  unfold Mh at h;split at h
  · cases h
  · split at h
    · cases h
    · split at h
      · cases h
      · omega
end Go.Proofs.YtopjaeoklkpcpaaGreatDoor.Jd

namespace Go.Proofs.YtopjaeoklkpcpaaGreatDoor.Jd
open Go.Proofs.Tryz
set_option linter.unusedVariables false
set_option linter.unusedSimpArgs false
theorem G2 {m k : Nat} (hm : m < 2 ^ 63) (hk : k ≤ 32) : Vq .i64 (m : Int) (2 ^ k - 1) = (m : Int) % 2 ^ k := by
  have hp : (0 : Nat) < 2 ^ k := Nat.pow_pos z4;have hle : (2 : Nat) ^ k ≤ 2 ^ 32 := Nat.pow_le_pow_right z4 hk;have e : ((2 : Int) ^ k - 1) = ((2 ^ k - 1 : Nat) : Int) := by rw [Int.ofNat_sub z4]; simp
  rw [e, D8 hm z4, Nat.and_two_pow_sub_one_eq_mod];simp
end Go.Proofs.YtopjaeoklkpcpaaGreatDoor.Jd

namespace Go.Proofs.YtopjaeoklkpcpaaGreatDoor.Jd
open Go.Proofs.Tryz
set_option linter.unusedVariables false
set_option linter.unusedSimpArgs false
theorem Xg {a : Int} : Re a = true ↔ 0 ≤ a ∧ a ≤ 4294967295 := by
  refine ⟨oA, fun h => ?_⟩;unfold Re;rw [if_pos h.1]; simpa using h.2
theorem iM : Re = Ux := rfl
theorem G3 {b : Int} (h : 0 ≤ b ∧ b ≤ 32) : ∃ k : Nat, k ≤ 32 ∧ b = 32 - (k : Int) ∧ Pc b = 2 ^ k := by
  refine ⟨(32 - b).toNat, by omega, by omega, iL h⟩
def wS (p : Au) : Prop := (0 ≤ p.bits ∧ p.bits ≤ 32) ∧ (0 ≤ p.addr ∧ p.addr ≤ 4294967295) ∧ p.addr % Pc p.bits = 0
theorem Rf {p : Au} : rRight p = true ↔ wS p := by
  unfold wS;constructor
  · intro h;obtain ⟨h1, h2, h3, h4⟩ := rRight_t h;refine ⟨⟨h1, h2⟩, ⟨h3, h4⟩, ?_⟩;unfold rRight at h;rw [if_pos h1, if_pos h2, if_pos (by rw [← iM]; exact Xg.2 ⟨h3, h4⟩)] at h;simpa using h
  · rintro ⟨⟨h1, h2⟩, h3, h4⟩;unfold rRight;rw [if_pos h1, if_pos h2, if_pos (by rw [← iM]; exact Xg.2 h3)];simpa using h4
theorem G4 (p : Au) : tN p = Pc p.bits - 1 := rfl
theorem iN {p : Au} (hb : 0 ≤ p.bits ∧ p.bits ≤ 32) (ha : 0 ≤ p.addr ∧ p.addr ≤ 4294967295) : iI p = true ↔ p.addr % Pc p.bits = 0 := by
  obtain ⟨k, hk, _, hs⟩ := G3 hb;unfold iI;rw [G4, hs];obtain ⟨m, hm⟩ : ∃ m : Nat, p.addr = (m : Int) := ⟨p.addr.toNat, by omega⟩
  rw [hm, G2 z4 hk];simp
theorem eO {p : Au} : Po p = true ↔ (0 ≤ p.bits ∧ p.bits ≤ 32) ∧ (0 ≤ p.addr ∧ p.addr ≤ 4294967295) := by
  constructor
  · intro h; have := eM h; omega
  · rintro ⟨⟨h1, h2⟩, h3⟩;unfold Po;rw [if_pos h1, if_pos h2]; exact Xg.2 h3
theorem rG {p : Au} : Oc p = true ↔ wS p := by
  unfold wS;constructor
  · intro h;have hs : Po p = true := by
      unfold Oc at h;cases hs : Po p
      · simp [hs] at h
      · rfl
    have hb := eO.1 hs;refine ⟨hb.1, hb.2, (iN hb.1 hb.2).1 ?_⟩;unfold Oc at h;cases he : iI p
    · simp [hs, he] at h
    · rfl
  · rintro ⟨h1, h2, h3⟩;unfold Oc;rw [eO.2 ⟨h1, h2⟩, (iN h1 h2).2 h3]; simp
theorem wT (p : Au) : Oc p = rRight p := by rw [Bool.eq_iff_iff, rG, Rf]
theorem wS.size {p : Au} (h : wS p) : 1 ≤ Pc p.bits ∧ Pc p.bits ≤ 4294967296 := eL h.1
def G5 : Nat → Nat → Az
  | 0, _ => []
  | f + 1, u => if u < 10 then [UInt8.ofNat (48 + u)] else G5 f (u / 10) ++ [UInt8.ofNat (48 + u % 10)]
theorem lB : ∀ (f u : Nat), u < f → G5 f u = Lib.decDigits u
  | 0, u, h => by omega
  | f + 1, u, h => by
    rw [Lib.decDigits];unfold G5;split
    · rfl
    · rw [lB f (u / 10) z4]
def G6 (n : Int) : Az := if n < 0 then 45 :: G5 (n.natAbs + 1) n.natAbs else G5 (n.toNat + 1) n.toNat
theorem Ly : Lib.itoa = G6 := by
  funext n;unfold Lib.itoa G6;rw [lB _ _ z4, lB _ _ z4]
def oB (t : Az) (most : Int) : Int × Bool := Hr (Xe t most (t.length + 1) 0 0) (fun r => r) (fun a _ => if a ≤ most then (a, decide (G6 a = t)) else (a, false))
theorem Il : Iu = oB := by
  funext t most;unfold Iu oB;rw [Ly]
end Go.Proofs.YtopjaeoklkpcpaaGreatDoor.Jd

namespace Go.Proofs.YtopjaeoklkpcpaaGreatDoor.Jd
open Go.Proofs.Tryz
set_option linter.unusedVariables false
set_option linter.unusedSimpArgs false
theorem e1 : Mt [49, 48, 46, 49, 46, 48, 46, 48, 47, 49, 54] = (⟨167837696, 16⟩, 0) := by unfold Mt Ig; rw [Il]; kernel_rfl
theorem e2 : Ig [49, 48, 46, 49, 46, 50, 46, 51] = (167838211, 0) := by unfold Ig; rw [Il]; kernel_rfl
theorem e3 : Ig [49, 48, 46, 50, 46, 48, 46, 48] = (167903232, 0) := by unfold Ig; rw [Il]; kernel_rfl
theorem e4 : Xd 167903231 = ([49, 48, 46, 49, 46, 50, 53, 53, 46, 50, 53, 53], 0) := by unfold Xd; rw [Ly]; kernel_rfl
theorem e5 : Ig [49, 46, 50, 46, 51, 46, 48, 52] = (0, 60) := by unfold Ig; rw [Il]; kernel_rfl
theorem e6 : Mt [49, 48, 46, 49, 46, 48, 46, 49, 47, 49, 54] = (⟨0, 0⟩, 61) := by unfold Mt Ig; rw [Il]; kernel_rfl
end Go.Proofs.YtopjaeoklkpcpaaGreatDoor.Jd

namespace Go.Proofs.YtopjaeoklkpcpaaGreatDoor.Jd
open Go.Proofs.Tryz
set_option linter.unusedVariables false
set_option linter.unusedSimpArgs false
theorem q1 : aK [56, 48, 45, 57, 48] = (⟨80, 90⟩, 0) := by unfold aK Ih; rw [Ly]; kernel_rfl
theorem q2 : aK [42] = (⟨0, 65535⟩, 0) := by unfold aK Ih; rw [Ly]; kernel_rfl
theorem q3 : kZ [49, 46, 50, 46, 51, 46, 52, 58, 56, 48] = (⟨16909060, 80⟩, 0) := by unfold kZ aL Ig Xd; rw [Il, Ly]; kernel_rfl
theorem q4 : aL ⟨16909060, 80⟩ = ([49, 46, 50, 46, 51, 46, 52, 58, 56, 48], 0) := by unfold aL Xd; rw [Ly]; kernel_rfl
theorem q5 : aK [56, 48, 45, 56, 48] = (⟨0, 0⟩, 70) := by unfold aK Ih; rw [Ly]; kernel_rfl
theorem q6 : kZ [49, 46, 50, 46, 51, 46, 52, 58, 48] = (⟨0, 0⟩, 71) := by unfold kZ aL Ig Xd; rw [Il, Ly]; kernel_rfl
theorem q7 : AX8 ⟨80, 90⟩ ⟨0, 65535⟩ = (⟨80, 90⟩, true) := by kernel_rfl
theorem G7 (p : Ao) : Mh p = decide (0 ≤ p.lo ∧ p.lo ≤ p.hi ∧ p.hi ≤ 65535) := by
  rw [Bool.eq_iff_iff, decide_eq_true_eq];refine ⟨G1, fun h => ?_⟩;unfold Mh;rw [if_neg z4, if_neg z4, if_neg z4]
end Go.Proofs.YtopjaeoklkpcpaaGreatDoor.Jd

namespace Go.Proofs.YtopjaeoklkpcpaaGreatDoor.Jd
open Go.Proofs.Tryz
set_option linter.unusedVariables false
set_option linter.unusedSimpArgs false
theorem G8 {s : Az} {i : Nat} (h : i < s.length) : (bs s).get! i = s.getD i default := by
  have h2 : i < (bs s).data.size := by simpa [bs] using h
  rw [ByteArray.get!];rw [getElem!_pos (bs s).data i h2];simp [bs, List.getD, h]
theorem AL8 {s : Az} {i : Nat} (h : i < s.length) (hb : (s.getD i default).toNat < 128) : cG s i = ((s.getD i default).toNat, 1) := by
  unfold cG Utf8.decode;simp only [Nat.add_zero, G8 h];rw [if_pos hb]
theorem AL9 {s : Az} {i : Nat} (h : i < s.length) (hb : ¬ (s.getD i default).toNat < 128) : 128 ≤ (cG s i).1 := by
  unfold cG Utf8.decode;simp only [Nat.add_zero, G8 h];rw [if_neg hb]
  repeat' split
  all_goals (simp only [Utf8.runeError]; try simp only [Bool.and_eq_true, decide_eq_true_eq] at *; try omega)
end Go.Proofs.YtopjaeoklkpcpaaGreatDoor.Jd

namespace Go.Proofs.YtopjaeoklkpcpaaGreatDoor.Jd
open Go.Proofs.Tryz
set_option linter.unusedVariables false
set_option linter.unusedSimpArgs false
theorem wU (p : Ao) : Pd p = decide (0 ≤ p.lo ∧ p.lo ≤ p.hi ∧ p.hi ≤ 65535) := by
  rw [Bool.eq_iff_iff, decide_eq_true_eq];refine ⟨wR, fun h => ?_⟩;unfold Pd;rw [if_pos z4, if_pos z4]; simp; omega
theorem rH (p : Ao) : Pd p = Mh p := by rw [wU, G7]
def one (s : Az) : Ao := ⟨Cm s, Cm s⟩
end Go.Proofs.YtopjaeoklkpcpaaGreatDoor.Jd

namespace Go.Proofs.YtopjaeoklkpcpaaGreatDoor.Jd
open Go.Proofs.Tryz
set_option linter.unusedVariables false
set_option linter.unusedSimpArgs false
theorem bG {key : Az} : Mv key = true ↔ 1 ≤ key.length ∧ key.length ≤ 64 := by
  unfold Mv;split <;> simp <;> omega
def AD2 (l : List Bs) (i : Nat) : Prop := tP (l.getD i default) ∧ (0 < i → (l.getD (i - 1) default).id < (l.getD i default).id)
theorem Tq (l : List Bs) (b : Bool) : ∀ n k, l.length < n + k → (Cc (Fr l n k) (fun r => r) (fun _ => b) = true ↔ b = true ∧ ∀ i, k ≤ i → i < l.length → AD2 l i)
  | 0, k, h => by
    simp only [Fr, Cc];exact ⟨fun hb => ⟨hb, fun i h1 h2 => by omega⟩, fun hb => hb.1⟩
  | n + 1, k, h => by
    have hp : (((k : Nat) : Int) - 1).toNat = k - 1 := by omega
    by_cases hk : k < l.length
    · by_cases hb : AD2 l k
      · have e : Fr l (n + 1) k = Fr l n (k + 1) := by
          obtain ⟨⟨h1, h2, h3, h4, h5⟩, h6⟩ := hb;have hm := bG.2 h2;rw [Fr, if_pos z4, if_neg z4, if_neg z4, hp, hm];by_cases h0 : 0 < ((k : Nat) : Int)
          · have := h6 z4;rw [if_pos h0, if_neg z4, if_neg Gu, if_neg z4, if_neg z4, if_neg z4]
          · rw [if_neg h0, if_neg Gu, if_neg z4, if_neg z4, if_neg z4]
        rw [e, Tq l b n (k + 1) z4];constructor
        · rintro ⟨g1, g2⟩;refine ⟨g1, fun i hi hl => ?_⟩;by_cases hik : i = k
          · subst hik; exact hb
          · exact g2 i z4 hl
        · rintro ⟨g1, g2⟩;exact ⟨g1, fun i hi hl => g2 i z4 hl⟩
      · have e : Fr l (n + 1) k = .error false := by
          rw [Fr, if_pos z4, hp]
          repeat' split
          all_goals first
            | rfl
            | (exfalso
               apply hb;have hm : Mv (l.getD k default).key = true := by simp_all
               have := bG.1 hm;exact ⟨⟨by omega, this, by omega, by omega, by omega⟩, fun _ => by omega⟩)
        rw [e];simp only [Cc];exact ⟨nofun, fun ⟨_, g2⟩ => absurd (g2 k (Nat.le_refl _) hk) hb⟩
    · rw [Fr, if_neg z4];simp only [Cc];exact ⟨fun hb => ⟨hb, fun i h1 h2 => by omega⟩, fun hb => hb.1⟩
theorem gM {l : List Bs} (h : ∀ i, 0 < i → i < l.length → (l.getD (i - 1) default).id < (l.getD i default).id) : l.Pairwise fun a b => a.id < b.id := by
  have key : ∀ d i, i + d + 1 < l.length → (l.getD i default).id < (l.getD (i + d + 1) default).id := by
    intro d
    induction d with
    | zero => intro i hi; exact h (i + 1) z4 hi
    | succ d ih =>
      intro i hi;have h1 := ih i z4;have h2 := h (i + (d + 1) + 1) z4 hi;rw [show i + (d + 1) + 1 - 1 = i + d + 1 by omega] at h2;omega
  rw [List.pairwise_iff_getElem];intro i j hi hj hij;have := key (j - i - 1) i z4;rw [show i + (j - i - 1) + 1 = j by omega] at this;simpa [List.getD, hi, hj] using this
theorem bH {l : List Bs} : Lj l = true ↔ Tn l := by
  unfold Lj Tn;rw [Tq l _ _ _ z4, decide_eq_true_eq];constructor
  · rintro ⟨h1, h2⟩;refine ⟨by omega, fun c hc => ?_, gM fun i hi hl => (h2 i z4 hl).2 hi⟩;obtain ⟨i, hi, rfl⟩ := List.mem_iff_getElem.1 hc;have := (h2 i z4 hi).1;simpa [List.getD, hi] using this
  · rintro ⟨h1, h2, h3⟩;refine ⟨by omega, fun i _ hi => ⟨?_, fun h0 => ?_⟩⟩
    · have := h2 l[i] (List.getElem_mem hi);simpa [List.getD, hi] using this
    · have := List.pairwise_iff_getElem.1 h3 (i - 1) i z4 hi z4;simpa [List.getD, hi, show i - 1 < l.length by omega] using this
theorem Xh (l : List Bs) : Lj l = Js l := by
  cases h : Js l
  · cases h2 : Lj l
    · rfl
    · have := Lf.2 (bH.1 h2);rw [h] at this; cases this
  · exact bH.2 (Lf.1 h)
theorem wV {l : List Bs} (h : Lj l = true) : Xf l := eJ (by rw [← Xh]; exact h)
end Go.Proofs.YtopjaeoklkpcpaaGreatDoor.Jd

namespace Go.Proofs.YtopjaeoklkpcpaaGreatDoor.Jd
open Go.Proofs.Tryz
open Go.Proofs
set_option maxRecDepth 100000
open Go.RowKit Go.Extern.Stop Go.Stop Go.Extern
set_option linter.unusedVariables false
set_option linter.unusedSimpArgs false
theorem AM0 (t : Value) (w : World) : Calls Tryz.prog 76 #[.nilIface, t] w fun e w' => e = .returned (.bool false) ∧ w' = w := by
  go_enter func76, ntmps76
  go_wp2
  go_ret
  exact ⟨rfl, rfl⟩
theorem G9 (w : World) {t : Value} : Jc Tryz.prog 76 [.nilIface, t] w (.bool false) :=
  (AM0 t w).mono fun e w' ⟨he, hw⟩ => ⟨he, hw ▸ Below.refl _ _⟩
theorem oC (t : Addr) (w : World) : (ReflectliteValue.unpack (.iface 219 (.pointer (some t)))).run Tryz.prog w
    = .ok (.agg #[.pointer (some ⟨6, 219, none⟩), .pointer (some ⟨w.heap.size, 0, none⟩), .int .u64 150]) (w.alloc (.cells #[.pointer (some t)] 219)) := by kernel_rfl
theorem H0 (a : Addr) (w : World) : (ReflectliteValue.methodAny (ReflectliteValue.valueError "reflectlite.Value.Type" 0) (fun t _ _ _ => ReflectliteType.toType t) #[.agg #[.pointer (some ⟨6, 219, none⟩), .pointer (some a), .int .u64 150]]).run Tryz.prog w
    = .ok (.iface 199 (.agg #[.pointer (some ⟨6, 219, none⟩)])) w := by kernel_rfl
theorem gN (h : Value) (w : World) : (Go.method 373 199 (.agg #[h]) "Kind").run Tryz.prog w = .ok (196, h) w := by kernel_rfl
theorem H3 (w : World) : ((ReflectliteType.abiMethod fun t => (fun a : Nat => Value.int IntKind.u8 (a : Int)) <$> Rtype.kind t) #[.pointer (some ⟨6, 219, none⟩)]).run Tryz.prog w = .ok (.int .u8 22) w := by kernel_rfl
theorem H4 (w : World) : ((ReflectliteType.abiMethod fun t => (fun a : Nat => Value.int IntKind.u8 (a : Int)) <$> Rtype.kind t) #[.pointer (some ⟨6, 216, none⟩)]).run Tryz.prog w = .ok (.int .u8 25) w := by kernel_rfl
theorem H5 (z : Sem Value) (f : TypeId → Addr → Nat → Nat → Sem Value) (v : Value) :
    ReflectliteValue.method z f #[v] = (do match ← ReflectliteValue.parts v with | none => z | some (t, a, fl) => f t a fl (fl % 32)) := rfl
theorem iO (a : Addr) (w : World) : (ReflectliteValue.parts (.agg #[.pointer (some ⟨6, 219, none⟩), .pointer (some a), .int .u64 150])).run Tryz.prog w = .ok (some (219, a, 150)) w := by kernel_rfl
theorem wW (a p : Addr) (W : World) (ha : W.cell? a = some (.pointer (some p))) :
    (ReflectliteValue.method (ReflectliteValue.valueError "reflectlite.Value.IsNil" 0) ReflectliteValue.isNil #[.agg #[.pointer (some ⟨6, 219, none⟩), .pointer (some a), .int .u64 150]]).run Tryz.prog W = .ok (.bool false) W := by
  rw [H5];simp only [Sem.run_bind, iO, Result.andThen];simp [ReflectliteValue.isNil, loadVar, isAgg, underlying, underlying219, ha, Result.andThen]
theorem gO (h : Value) (w : World) : (Go.method 373 199 (.agg #[h]) "Elem").run Tryz.prog w = .ok (206, .agg #[h]) w := by kernel_rfl
theorem Vr (h : Value) (w : World) : (Go.method 373 199 (.agg #[h]) "Implements").run Tryz.prog w = .ok (207, .agg #[h]) w := by kernel_rfl
theorem Sh (h : Value) (w : World) : (Go.method 373 199 (.agg #[h]) "AssignableTo").run Tryz.prog w = .ok (204, .agg #[h]) w := by kernel_rfl
theorem H6 (w : World) : (ReflectliteType.method ReflectliteType.elem #[.agg #[.pointer (some ⟨6, 219, none⟩)]]).run Tryz.prog w = .ok (.iface 199 (.agg #[.pointer (some ⟨6, 216, none⟩)])) w := by kernel_rfl
theorem eP (w : World) : (ReflectliteType.relation "Implements" ReflectliteType.implements_ #[.agg #[.pointer (some ⟨6, 216, none⟩)], .iface 199 (.agg #[.pointer (some ⟨6, 78, none⟩)])]).run Tryz.prog w = .ok (.bool true) w := by kernel_rfl
theorem rI (v : Value) (w : World) : (ReflectliteType.typeOf #[.iface 216 v]).run Tryz.prog w = .ok (.iface 199 (.agg #[.pointer (some ⟨6, 216, none⟩)])) w := by kernel_rfl
theorem eQ (w : World) : (ReflectliteType.relation "AssignableTo" ReflectliteType.assignableTo #[.agg #[.pointer (some ⟨6, 216, none⟩)], .iface 199 (.agg #[.pointer (some ⟨6, 216, none⟩)])]).run Tryz.prog w = .ok (.bool true) w := by kernel_rfl
theorem oD (k : Int) (w : World) : (ReflectliteValue.unpack (.iface 216 (.agg #[.int .i64 k]))).run Tryz.prog w
    = .ok (.agg #[.pointer (some ⟨6, 216, none⟩), .pointer (some ⟨w.heap.size, 0, none⟩), .int .u64 153]) (w.alloc (.cells #[.int .i64 k] 216)) := by kernel_rfl
theorem rJ (w : World) : (Rtype.elem? 219).run Tryz.prog w = .ok (some 216) w := by kernel_rfl
theorem AM1 (p : Addr) (w : World) : (ReflectliteValue.mk 216 p ReflectliteValue.flagAddr).run Tryz.prog w = .ok (.agg #[.pointer (some ⟨6, 216, none⟩), .pointer (some p), .int .u64 409]) w := by kernel_rfl
theorem wX (a p : Addr) (W : World) (ha : W.cell? a = some (.pointer (some p))) :
    (ReflectliteValue.method (ReflectliteValue.valueError "reflectlite.Value.Elem" 0) ReflectliteValue.elem #[.agg #[.pointer (some ⟨6, 219, none⟩), .pointer (some a), .int .u64 150]]).run Tryz.prog W
      = .ok (.agg #[.pointer (some ⟨6, 216, none⟩), .pointer (some p), .int .u64 409]) W := by
  rw [H5];simp only [Sem.run_bind, iO, Result.andThen];simp [ReflectliteValue.elem, loadVar, isAgg, underlying, underlying219, ha, Result.andThen, rJ, AM1]
theorem AM2 (v x : Value) : ReflectliteValue.set #[v, x] = (do
    let (some (dst, a, fl), some (src, b, _)) := (← ReflectliteValue.parts v, ← ReflectliteValue.parts x)
      | unsupported (.noEntry "extern/(internal/reflectlite.Value).Set.zeroValue")
    if fl / ReflectliteValue.flagAddr % 2 == 0 then unsupported (.noEntry "extern/(internal/reflectlite.Value).Set.unaddressable")
    let val ← loadVar src b
    if ← Rtype.directlyAssignable dst src then storeVar dst a val
    else if ← Rtype.implements dst src then
      if (← Rtype.kind src) == 20 then
        match val with
        | .nilIface => unsupported (.noEntry "extern/reflectlite: a nil value of one interface type handed on as a value of another")
        | _ => storeVar dst a val
      else storeVar dst a (.iface src val)
    else panicString ("reflectlite.Set: value of type " ++ (← Rtype.spelt src) ++ " is not assignable to type " ++ (← Rtype.spelt dst))
    pure (.tuple #[])) := rfl
theorem wY (a : Addr) (w : World) : (ReflectliteValue.parts (.agg #[.pointer (some ⟨6, 216, none⟩), .pointer (some a), .int .u64 409])).run Tryz.prog w = .ok (some (216, a, 409)) w := by kernel_rfl
theorem wZ (a : Addr) (w : World) : (ReflectliteValue.parts (.agg #[.pointer (some ⟨6, 216, none⟩), .pointer (some a), .int .u64 153])).run Tryz.prog w = .ok (some (216, a, 153)) w := by kernel_rfl
theorem rK (w : World) : (Rtype.directlyAssignable 216 216).run Tryz.prog w = .ok true w := by kernel_rfl
theorem H7 (w : World) : (sizeOf 216).run Tryz.prog w = .ok 1 w := by kernel_rfl
theorem W8 (w : World) : (isAgg 216).run Tryz.prog w = .ok true w := by kernel_rfl
theorem W9 (ta b : Addr) (k : Int) (old : Value) (W : World) (hb : W.cell? b = some (.int .i64 k)) (hsb : b.spot = none) (ht : W.cell? ta = some old) (hst : ta.spot = none) (hf : W.frozen? ta = false) :
    (ReflectliteValue.set #[.agg #[.pointer (some ⟨6, 216, none⟩), .pointer (some ta), .int .u64 409], .agg #[.pointer (some ⟨6, 216, none⟩), .pointer (some b), .int .u64 153]]).run Tryz.prog W
      = .ok (.tuple #[]) (W.setCell ta (.int .i64 k)) := by
  have hl : (loadCells b 1).run Tryz.prog W = .ok #[.int .i64 k] W := run_loadCells_list (P := Tryz.prog) W b [.int .i64 k] (fun j v hj => by
    rcases j with _ | j
    · cases hj
      simpa [Addr.add] using hb
    · simp at hj)
  rw [AM2];simp only [Sem.run_bind, wY, wZ, Result.andThen];simp [ReflectliteValue.flagAddr, loadVar, W8, H7, hl, Result.andThen, rK, storeVar, Value.cells, storeCells, Addr.add];rw [run_store Tryz.prog W ta _ _ (by rfl)];simp [ht, hf]
set_option maxHeartbeats 4000000 in
theorem AM3 (k : Int) (t : Addr) (old : Value) (w : World) (hg : w.cell? ⟨0, 0, none⟩ = some (.iface 199 (.agg #[.pointer (some ⟨6, 78, none⟩)]))) (ht0 : w.cell? t = some old) (hst : t.spot = none) (hf0 : w.frozen? t = false) :
    Calls Tryz.prog 76 #[.iface 216 (.agg #[.int .i64 k]), .iface 219 (.pointer (some t))] w fun ev w' => ev = .returned (.bool true) ∧ w' = ((((w.alloc (.cells #[.pointer (some t)] 219)).alloc (.cells #[.pointer (some ⟨6, 219, none⟩), .pointer (some ⟨w.heap.size, 0, none⟩), .int .u64 150] 169)).alloc (.cells #[.pointer (some ⟨6, 219, none⟩), .pointer (some ⟨w.heap.size, 0, none⟩), .int .u64 150] 169)).alloc (.cells #[.int .i64 k] 216)).setCell t (.int .i64 k) := by
  have h6 := @run_callFunc_extern Tryz.prog 116 _ (fun args => ReflectliteValue.unpack (args.getD 0 (.tuple #[]))) func116 z5 z5 z5 z5;have h7 := @run_callFunc_extern Tryz.prog 117 _ (ReflectliteValue.methodAny (ReflectliteValue.valueError "reflectlite.Value.Type" 0) (fun t _ _ _ => ReflectliteType.toType t)) func117 z5 z5 z5 z5;have h8 := @run_callFunc_extern Tryz.prog 118 _ (ReflectliteValue.method (ReflectliteValue.valueError "reflectlite.Value.IsNil" 0) ReflectliteValue.isNil) func118 z5 z5 z5 z5;have h27 := @run_callFunc_extern Tryz.prog 196 _ (ReflectliteType.abiMethod fun t => do pure (.int .u8 (← Rtype.kind t))) func196 z5 z5 z5 z5;have h37 := @run_callFunc_extern Tryz.prog 206 _ (ReflectliteType.method ReflectliteType.elem) func206 z5 z5 z5 z5;have h38 := @run_callFunc_extern Tryz.prog 207 _ (ReflectliteType.relation "Implements" ReflectliteType.implements_) func207 z5 z5 z5 z5;have h10 := @run_callFunc_extern Tryz.prog 148 _ ReflectliteType.typeOf func148 z5 z5 z5 z5;have h35 := @run_callFunc_extern Tryz.prog 204 _ (ReflectliteType.relation "AssignableTo" ReflectliteType.assignableTo) func204 z5 z5 z5 z5;have h11 := @run_callFunc_extern Tryz.prog 149 _ (ReflectliteValue.method (ReflectliteValue.valueError "reflectlite.Value.Elem" 0) ReflectliteValue.elem) func149 z5 z5 z5 z5;have h12 := @run_callFunc_extern Tryz.prog 150 _ ReflectliteValue.set func150 z5 z5 z5 z5;have tO := rI;have mA := Sh;have a25 := eQ;have v25 := oD;have f6 := oC;have f7 := H0;have mK := gN;have mE := gO;have mI := Vr;have k27 := H3;have k25 := H4;have e27 := H6;have i25 := eP;have n8 := wW ⟨w.heap.size, 0, none⟩ t ((w.alloc (.cells #[.pointer (some t)] 219)).alloc (.cells #[.pointer (some ⟨6, 219, none⟩), .pointer (some ⟨w.heap.size, 0, none⟩), .int .u64 150] 169)) Gu;have hlt : 0 < w.heap.size := by
    rcases Nat.lt_or_ge 0 w.heap.size with h | h
    · exact h
    · simp [World.cell?, Array.getElem?_eq_none h] at hg
  have hg2 : ((w.alloc (.cells #[.pointer (some t)] 219)).alloc (.cells #[.pointer (some ⟨6, 219, none⟩), .pointer (some ⟨w.heap.size, 0, none⟩), .int .u64 150] 169)).cell? ⟨0, 0, none⟩ = some (.iface 199 (.agg #[.pointer (some ⟨6, 78, none⟩)])) := by
    rw [World.cell?_alloc_lt _ _ ⟨0, 0, none⟩ (by first | (simp; done) | (simp; omega)), World.cell?_alloc_lt _ _ ⟨0, 0, none⟩ hlt]; exact hg
  have htl : t.block < w.heap.size := by
    rcases Nat.lt_or_ge t.block w.heap.size with h | h
    · exact h
    · simp [World.cell?, Array.getElem?_eq_none h] at ht0
  have el := wX ⟨w.heap.size, 0, none⟩ t (((w.alloc (.cells #[.pointer (some t)] 219)).alloc (.cells #[.pointer (some ⟨6, 219, none⟩), .pointer (some ⟨w.heap.size, 0, none⟩), .int .u64 150] 169)).alloc (.cells #[.pointer (some ⟨6, 219, none⟩), .pointer (some ⟨w.heap.size, 0, none⟩), .int .u64 150] 169)) (by rw [World.cell?_alloc_lt _ _ ⟨w.heap.size, 0, none⟩ dA]; simp);have st := W9 t ⟨w.heap.size + 1 + 1 + 1, 0, none⟩ k old ((((w.alloc (.cells #[.pointer (some t)] 219)).alloc (.cells #[.pointer (some ⟨6, 219, none⟩), .pointer (some ⟨w.heap.size, 0, none⟩), .int .u64 150] 169)).alloc (.cells #[.pointer (some ⟨6, 219, none⟩), .pointer (some ⟨w.heap.size, 0, none⟩), .int .u64 150] 169)).alloc (.cells #[.int .i64 k] 216))
    (by rw [World.cell?_alloc_at _ _ _ _ Gu]; rfl) rfl
    (by rw [World.cell?_alloc_lt _ _ t (by first | (simp; done) | (simp; omega)), World.cell?_alloc_lt _ _ t dA, World.cell?_alloc_lt _ _ t dA, World.cell?_alloc_lt _ _ t htl]; exact ht0) hst
    (by rw [World.frozen?_alloc_old _ _ t dA, World.frozen?_alloc_old _ _ t dA, World.frozen?_alloc_old _ _ t dA, World.frozen?_alloc_old _ _ t (Nat.ne_of_lt htl)]; exact hf0)
  go_enter func76, ntmps76
  go_wp2
  refine wp_loop_rounds 1 ?_;rw [rounds_succ]
  go_wp2
  go_ret
  exact ⟨rfl, rfl⟩
theorem Lz (w : World) {k : Int} {r : Nat} {old : Value} {T : TypeId} (hg : w.cell? ⟨0, 0, none⟩ = some (.iface 199 (.agg #[.pointer (some ⟨6, 78, none⟩)]))) (hr : w.heap[r]? = some (.cells [old].toArray T)) :
    Calls Tryz.prog 76 [.iface 216 (.agg [.int .i64 k].toArray), .iface 219 (.pointer (some ⟨r, 0, none⟩))].toArray w fun e w' => e = .returned (.bool true) ∧ Tr w w' [(r, .cells [old].toArray T)] [(r, .cells [Value.int .i64 k].toArray T)] := by
  have hlt := (Array.getElem?_eq_some_iff.1 hr).1;refine (AM3 k ⟨r, 0, none⟩ old w hg (by simp [World.cell?, hr]) rfl (by simp [World.frozen?, hr])).mono ?_;rintro e w' ⟨rfl, rfl⟩;have hx : ∀ (o1 o2 o3 o4 : Obj) (j : Nat), j < w.heap.size → ((((w.alloc o1).alloc o2).alloc o3).alloc o4).heap[j]? = w.heap[j]? := fun o1 o2 o3 o4 j hj => by
    rw [Below.heap_alloc _ _ j dA, Below.heap_alloc _ _ j dA, Below.heap_alloc _ _ j dA, Below.heap_alloc _ _ j hj]
  refine ⟨rfl, rfl, rfl, rfl, ?_, fun j hj hk => ?_, fun p hp => ?_, fun p hp => .inl ?_, by simp [keys]⟩
  · simp [World.setCell]; omega
  · rw [Below.heap_setCell _ _ _ j (fun e => hk (by subst e; simp [keys]))];exact hx _ _ _ _ j hj
  · have : p = (r, .cells [Value.int .i64 k].toArray T) := by simpa using hp
    subst this;have h0 := hx (.cells #[.pointer (some ⟨r, 0, none⟩)] 219) (.cells #[.pointer (some ⟨6, 219, none⟩), .pointer (some ⟨w.heap.size, 0, none⟩), .int .u64 150] 169) (.cells #[.pointer (some ⟨6, 219, none⟩), .pointer (some ⟨w.heap.size, 0, none⟩), .int .u64 150] 169) (.cells #[.int .i64 k] 216) r hlt;rw [hr] at h0;simp only [World.setCell, Array.getElem?_modify, if_true];rw [h0];simp
  · have : p = (r, .cells [Value.int .i64 k].toArray T) := by simpa using hp
    subst this;simp [keys]
end Go.Proofs.YtopjaeoklkpcpaaGreatDoor.Jd

namespace Go.Proofs.YtopjaeoklkpcpaaGreatDoor.Jd
open Go.Proofs.Tryz
set_option linter.unusedVariables false
set_option linter.unusedSimpArgs false
theorem Lk (s : Slots) : ∀ (n i : Nat) (b : Bool), Fq s n i = .error b → b = false
  | 0, i, b, h => by simp [Fq] at h
  | n + 1, i, b, h => by
    unfold Fq at h;split at h
    · split at h
      · have h0 : (0 : Int) ≤ ((i : Nat) : Int) := by omega
        simp only [h0, not_true_eq_false, not_false_eq_true, if_true] at h;exact (Except.error.inj h).symm
      · split at h
        · have h0 : (0 : Int) ≤ ((i : Nat) : Int) := by omega
          simp only [h0, not_true_eq_false, not_false_eq_true, if_true] at h;exact (Except.error.inj h).symm
        · exact Lk s n _ b h
    · simp at h
theorem Za (s : Slots) : ∀ (n i j : Nat), Fq s n i = .ok j → ∀ k : Nat, i ≤ k → k < i + n → k < s.gens.length → 0 ≤ s.gens.getD k default ∧ s.gens.getD k default ≤ 1000000000
  | 0, i, j, h, k, h1, h2, h3 => by omega
  | n + 1, i, j, h, k, h1, h2, h3 => by
    unfold Fq at h;split at h
    · split at h
      · simp at h
      · split at h
        · simp at h
        · by_cases e : k = i
          · subst e; omega
          · exact Za s n _ j h k z4 z4 h3
    · omega
theorem Pq (s : Slots) (x : Nat) : ∀ (n i : Nat) (l : List Int) (b : Bool), Fc s x n i l = .error b → b = false
  | 0, i, l, b, h => by simp [Fc] at h
  | n + 1, i, l, b, h => by
    unfold Fc at h;split at h
    · split at h
      · exact (Except.error.inj h).symm
      · split at h
        · exact (Except.error.inj h).symm
        · split at h
          · exact (Except.error.inj h).symm
          · split at h
            · exact (Except.error.inj h).symm
            · exact Pq s x n _ _ b h
    · simp at h
theorem Zb (s : Slots) (x : Nat) : ∀ (n i : Nat) (l : List Int) (r : Nat × List Int), Fc s x n i l = .ok r → ∀ k : Nat, i ≤ k → k < i + n → k < s.free.length → 0 ≤ s.free.getD k default ∧ s.free.getD k default < ((s.used.length : Nat) : Int) ∧ s.used.getD ((s.free.getD k default)).toNat default = false
  | 0, i, l, r, h, k, h1, h2, h3 => by omega
  | n + 1, i, l, r, h, k, h1, h2, h3 => by
    unfold Fc at h;split at h
    · split at h
      · simp at h
      · split at h
        · simp at h
        · split at h
          · simp at h
          · split at h
            · simp at h
            · by_cases e : k = i
              · subst e; refine ⟨by omega, by omega, by simp_all⟩
              · exact Zb s x n _ _ r h k z4 z4 h3
    · omega
theorem Xi {s : Slots} (h : Fb s = true) : 1 ≤ s.gens.length ∧ s.gens.length ≤ 64 ∧ s.used.length = s.gens.length ∧ (∀ k : Nat, k < s.gens.length → 0 ≤ s.gens.getD k default ∧ s.gens.getD k default ≤ 1000000000) ∧ (∀ k : Nat, k < s.free.length → 0 ≤ s.free.getD k default ∧ s.free.getD k default < ((s.used.length : Nat) : Int) ∧ s.used.getD ((s.free.getD k default)).toNat default = false) := by
  unfold Fb at h;split at h
  · split at h
    · split at h
      · exact absurd h Gn
      · rename_i h1 h2 h3
        have h3' : ((s.used.length : Nat) : Int) = ((s.gens.length : Nat) : Int) := by omega
        refine ⟨by omega, by omega, by omega, ?_, ?_⟩
        · cases e : Fq s (s.gens.length + 1) 0 with
          | error b =>
            have := Lk s _ _ _ e;subst this;rw [e] at h; simp [Cc] at h
          | ok j =>
            intro k hk;exact Za s _ _ _ e k z4 z4 hk
        · cases e : Fq s (s.gens.length + 1) 0 with
          | error b =>
            have := Lk s _ _ _ e;subst this;rw [e] at h; simp [Cc] at h
          | ok j =>
            rw [e] at h;simp only [Cc] at h;cases e2 : Fc s j (s.free.length + 1) 0 ([] : List Int) with
            | error b =>
              have := Pq s _ _ _ _ _ e2;subst this;rw [e2] at h; simp [Hr] at h
            | ok r =>
              intro k hk;exact Zb s _ _ _ _ _ e2 k z4 z4 hk
    · exact absurd h Gn
  · exact absurd h Gn
theorem Wd (s : Slots) (x : Nat) : ∀ (n i : Nat) (l : List Int) (r : Nat × List Int), Fc s x n i l = .ok r → s.free.length < i + n → i ≤ s.free.length → r.2.length = l.length + (s.free.length - i)
  | 0, i, l, r, h, h1, h2 => by omega
  | n + 1, i, l, r, h, h1, h2 => by
    unfold Fc at h;split at h
    · split at h
      · simp at h
      · split at h
        · simp at h
        · split at h
          · simp at h
          · split at h
            · simp at h
            · have := Wd s x n _ _ r h z4 z4;simp only [List.length_append, List.length_cons, List.length_nil] at this;omega
    · have := Except.ok.inj h;subst this; simp only; omega
theorem Rg (s : Slots) (a b : Nat) (l : List Int) : ∀ (n i : Nat) (x : Int), (Hg s a b l n i x).2 ≤ x
  | 0, i, x => by simp [Hg]
  | n + 1, i, x => by
    unfold Hg;split
    · split
      · have := Rg s a b l n (i + 1) (x - 1); omega
      · exact Rg s a b l n (i + 1) x
    · simp
theorem oE {s : Slots} (h : Fb s = true) : s.free.length ≤ 64 := by
  have h0 := Xi h;unfold Fb at h;rw [if_pos z4, if_pos z4, if_neg z4] at h;cases e : Fq s (s.gens.length + 1) 0 with
  | error b =>
    have := Lk s _ _ _ e;subst this;rw [e] at h; simp [Cc] at h
  | ok j =>
    rw [e] at h;simp only [Cc] at h;cases e2 : Fc s j (s.free.length + 1) 0 ([] : List Int) with
    | error b =>
      have := Pq s _ _ _ _ _ e2;subst this;rw [e2] at h; simp [Hr] at h
    | ok r =>
      have hl := Wd s _ _ _ _ _ e2 z4 z4;rw [e2] at h;obtain ⟨r1, r2⟩ := r;simp only [Hr, Pn] at h;have h6 := Rg s j r1 r2 (s.used.length + 1) 0 ((s.gens.length : Nat) : Int);split at h
      · exact absurd h Gn
      · rename_i h7
        simp only [List.length_nil] at hl;omega
theorem X0 {l : List Int} {a b : Int} (ha : a ≤ 0) (hb : 0 ≤ b) (h : ∀ k : Nat, k < l.length → a ≤ l.getD k default ∧ l.getD k default ≤ b) (k : Nat) : a ≤ l.getD k default ∧ l.getD k default ≤ b := by
  by_cases e : k < l.length
  · exact h k e
  · have : l.getD k default = 0 := by rw [List.getD_eq_getElem?_getD, List.getElem?_eq_none z4]; rfl
    omega
theorem Ts {s : Slots} (h : Fb s = true) : s.free.length ≤ 64 ∧ 1 ≤ s.gens.length ∧ s.gens.length ≤ 64 ∧ s.used.length = s.gens.length ∧ (0 ≤ (((s.free.length : Nat) : Int) - 1) → 0 ≤ s.free.getD ((((s.free.length : Nat) : Int) - 1)).toNat default ∧ s.free.getD ((((s.free.length : Nat) : Int) - 1)).toNat default < ((s.gens.length : Nat) : Int)) ∧ 0 ≤ s.gens.getD ((s.free.getD ((((s.free.length : Nat) : Int) - 1)).toNat default)).toNat default ∧ s.gens.getD ((s.free.getD ((((s.free.length : Nat) : Int) - 1)).toNat default)).toNat default ≤ 1000000000 := by
  obtain ⟨h1, h2, h3, h4, h5⟩ := Xi h;refine ⟨oE h, h1, h2, h3, ?_, X0 z4 z4 h4 _⟩;intro h6;have := h5 ((((s.free.length : Nat) : Int) - 1)).toNat z4;omega
theorem Tt (s : Slots) : ∀ (n i : Nat) (l : List Handle), l.length ≤ i → i ≤ s.used.length → (Hz s n i l).2.length ≤ s.used.length
  | 0, i, l, h, h2 => by simp only [Hz]; omega
  | n + 1, i, l, h, h2 => by
    unfold Hz;split
    · split
      · exact Tt s n _ _ dA z4
      · exact Tt s n _ _ z4 z4
    · simp only; omega
theorem H8 (s : Slots) : (Dz s).length ≤ 64 := by
  unfold Dz;cases h : Fb s
  · simp
  · obtain ⟨h1, h2, h3, _, _⟩ := Xi h;have := Tt s (s.used.length + 1) 0 [] Gu z4;simp only [Bool.not_true, Bool.false_eq_true, if_false, Pn]; omega
theorem Xj (s : Slots) : ∀ (n i : Nat) (l : List Handle), (∀ x ∈ l, 0 ≤ x.slot ∧ x.slot < ((s.used.length : Nat) : Int)) → ∀ x ∈ (Hz s n i l).2, 0 ≤ x.slot ∧ x.slot < ((s.used.length : Nat) : Int)
  | 0, i, l, h => by simpa only [Hz] using h
  | n + 1, i, l, h => by
    unfold Hz;split
    · split
      · refine Xj s n _ _ ?_;intro x hx;simp only [List.mem_append, List.mem_singleton] at hx;rcases hx with hx | hx
        · exact h x hx
        · subst hx; exact ⟨by simp only; omega, by simp only; omega⟩
      · exact Xj s n _ _ h
    · simpa only using h
theorem X1 (s : Slots) : ∀ x ∈ Dz s, 0 ≤ x.slot ∧ x.slot < ((s.used.length : Nat) : Int) := by
  unfold Dz;cases h : Fb s
  · simp
  · simp only [Bool.not_true, Bool.false_eq_true, if_false, Pn];exact Xj s _ _ _ Gu
theorem bI (s : Slots) (h : Handle) : ∀ (n i : Nat) (b : Bool), Hu s h n i = .error b → b = true ∧ ∃ x ∈ Dz s, x = h
  | 0, i, b, e => by simp [Hu] at e
  | n + 1, i, b, e => by
    unfold Hu at e;split at e
    · rename_i hi
      split at e
      · rename_i h2
        refine ⟨(Except.error.inj e).symm, (Dz s).getD i default, ?_, ?_⟩
        · have hi' : i < (Dz s).length := by omega
          rw [List.getD_eq_getElem?_getD, List.getElem?_eq_getElem hi']; exact List.getElem_mem hi'
        · obtain ⟨a1, a2⟩ := h2;cases h with | mk a b => cases hh : (Dz s).getD i default with | mk c d => rw [hh] at a1 a2; simp only at a1 a2; subst a1 a2; rfl
      · exact bI s h n _ b e
    · simp at e
theorem xB {s : Slots} {h : Handle} (e : Tk s h = true) : h ∈ Dz s := by
  unfold Tk at e;cases e2 : Hu s h ((Dz s).length + 1) 0 with
  | error b => obtain ⟨_, x, hx, hh⟩ := bI s h _ _ b e2; subst hh; exact hx
  | ok j => rw [e2] at e; simp [Cc] at e
theorem H9 {s : Slots} {h : Handle} (e : Tk s h = true) : 0 ≤ h.slot ∧ h.slot < ((s.used.length : Nat) : Int) := X1 s h (xB e)
end Go.Proofs.YtopjaeoklkpcpaaGreatDoor.Jd

namespace Go.Proofs.YtopjaeoklkpcpaaGreatDoor.Jd
open Go.Proofs.Tryz
open Go.Proofs
open Go.RowKit (Below)
set_option maxRecDepth 100000
set_option maxHeartbeats 8000000
set_option linter.unusedVariables false
set_option linter.unusedSimpArgs false
def Zc (x : Handle) : List Value := [vi x.slot, vi x.gen]
theorem Jw : Dk Zc 2 := ⟨by omega, fun _ => rfl, fun _ => rfl⟩
theorem Cy : Tryz.prog.follows .mixedOrders = true := by kernel_rfl
theorem Ll : Bq Tryz.prog 25 0 0 := fun r k w => by simp [Instr.fieldAt, Instr.sureAddr, fieldPlace, Bh]
theorem Rh : Bq Tryz.prog 25 1 1 := fun r k w => by simp [Instr.fieldAt, Instr.sureAddr, fieldPlace, Bh]
theorem Jn : Bq Tryz.prog 25 2 2 := fun r k w => by simp [Instr.fieldAt, Instr.sureAddr, fieldPlace, Bh]
theorem Jo : Bq Tryz.prog 42 0 0 := fun r k w => by simp [Instr.fieldAt, Instr.sureAddr, fieldPlace, Bh]
theorem Zd : Bq Tryz.prog 131 0 0 := fun r k w => by simp [Instr.fieldAt, Instr.sureAddr, fieldPlace, Bh]
theorem AX9 : Ic Tryz.prog 25 [(0, 1), (1, 1), (2, 1)] := ⟨_, fun w => runUnderlying25 w, fun w => by simp⟩
theorem AY0 : Ic Tryz.prog 42 [(0, 1), (1, 1)] := ⟨_, fun w => runUnderlying42 w, fun w => by simp⟩
theorem rL : Ic Tryz.prog 131 [(0, 3)] := ⟨_, fun w => runUnderlying131 w, fun w => by simp⟩
theorem rM (a0 b0 : Int) (a1 b1 : Int) (n : Nat) (w : World) : (Op.equalIn (n + 2) 42 (Value.agg [vi a0, vi a1].toArray) (Value.agg [vi b0, vi b1].toArray)).run Tryz.prog w = .ok (decide (a0 = b0 ∧ a1 = b1)) w := by
 rw [show n + 2 = (n + 1) + 1 from rfl];unfold Op.equalIn;simp [part, Ur (P := Tryz.prog) (t := 3) n .i64 _ _ runUnderlying3];by_cases h0 : a0 = b0 <;> by_cases h1 : a1 = b1 <;> simp_all
theorem AD3 (x y : Operand) (a0 b0 : Int) (a1 b1 : Int) (w : World) : (do eqGuard .eql 42 x y (Value.agg [vi a0, vi a1].toArray) (Value.agg [vi b0, vi b1].toArray); binOp .eql 42 (Value.agg [vi a0, vi a1].toArray) (Value.agg [vi b0, vi b1].toArray) : Sem Value).run Tryz.prog w = .ok (.bool (decide (a0 = b0 ∧ a1 = b1))) w := by
 have h2 : (binOp .eql 42 (Value.agg [vi a0, vi a1].toArray) (Value.agg [vi b0, vi b1].toArray)).run Tryz.prog w = .ok (.bool (decide (a0 = b0 ∧ a1 = b1))) w := by
  show (do pure (.bool (← Op.equal 42 _ _)) : Sem Value).run Tryz.prog w = _
  simp only [Sem.run_bind, Op.equal, Op.maxDepth, rM a0 b0 a1 b1 9998, Result.andThen_ok, Sem.run_pure]
 simp [eqGuard];simpa using h2
theorem AD4 (x y : Operand) (a0 b0 : Int) (a1 b1 : Int) (w : World) : (do eqGuard .neq 42 x y (Value.agg [vi a0, vi a1].toArray) (Value.agg [vi b0, vi b1].toArray); binOp .neq 42 (Value.agg [vi a0, vi a1].toArray) (Value.agg [vi b0, vi b1].toArray) : Sem Value).run Tryz.prog w = .ok (.bool (decide (¬ (a0 = b0 ∧ a1 = b1)))) w := by
 have h2 : (binOp .neq 42 (Value.agg [vi a0, vi a1].toArray) (Value.agg [vi b0, vi b1].toArray)).run Tryz.prog w = .ok (.bool (decide (¬ (a0 = b0 ∧ a1 = b1)))) w := by
  show (do pure (.bool (!(← Op.equal 42 _ _))) : Sem Value).run Tryz.prog w = _
  simp only [Sem.run_bind, Op.equal, Op.maxDepth, rM a0 b0 a1 b1 9998, Result.andThen_ok, Sem.run_pure];congr 2;simp
 simp [eqGuard];simpa using h2
theorem Dp : Ty Tryz.prog 3 1 8 (vi 0) := ⟨⟨Tryz.t3, by kernel_rfl, rfl, rfl, rfl⟩, rfl⟩
theorem Ps : Ty Tryz.prog 4 1 1 (Value.bool false) := ⟨⟨Tryz.t4, by kernel_rfl, rfl, rfl, rfl⟩, rfl⟩
theorem AD5 : Ty Tryz.prog 42 2 16 (Value.agg [(vi 0), (vi 0)].toArray) := ⟨⟨Tryz.t42, by kernel_rfl, rfl, rfl, rfl⟩, rfl⟩
theorem Hv {w : World} {α : Type} {enc : α → List Value} {k : Nat} {a : Option Addr} {s : List α} (h : Sl w enc k a s) (hn : Option.isNone a = true) : ([] : List α) = s := by
 have : a = none := by simpa using hn
 subst this;exact (Sl.none h).symm
theorem Xk (w : World) {s_a : Option Addr} {s_c : Nat} {s : List Int} (h_s : Sl w eI 1 s_a s) (n_s : s.length ≤ 1000000) : Calls Tryz.prog 71 (List.toArray [(vs s_a s.length s_c)]) w fun e w2 => ∃ a1 : Option Addr, ∃ c1 : Nat, ∃ B1 : An, e = .returned (vs a1 s.length c1) ∧ Dj w w2 B1 ∧ Bg eI 1 3 a1 c1 B1 s := by
 have hF := Is.refl s;refine enter func71 ntmps71 (h := ?_);refine Sb ?_;refine Ah (Ym runUnderlying22) (k := ?_);refine Z0 ?_;refine Cx rfl (fun a9 => ?_) (fun a9 => ?_)
 ·refine Bp ?_;refine Qc ?_;refine Ad results71 z1 (fun w1 hw1 => ?_);have d7 : ([] : List Int) = s := by (first | rfl | (exact Hv h_s bQ))
  have t8 : 0 = s.length := by first | (rw [← d7]; done) | (rw [← d7]; first | rfl | (simp; done) | (simp only [List.length_append, List.length_take, List.length_drop, List.length_set, List.length_replicate, List.length_cons, List.length_nil, List.length_map, Dc, Db]; omega) | (simp; omega))
  exact ⟨none, 0, [], lQ, (hw1.fresh_out.sub Gx), (d7 ▸ Bg.nil)⟩
 refine Nm ?_;refine Aj Af lO (k := fun r1 p4 => ?_);refine Cr ?_;refine Ba s (List.nil_append _) Dp underlying22 Bb Bg.nil (List.Perm.refl _) (Bv.of_base h_s) ⟨by omega, by omega⟩ (n := 0) (m := s.length) (k := fun ax1 cx1 bc m7 => ?_);refine Z9 ?_;refine Ad results71 z1 (fun w1 hw1 => ?_);have d7 : s = s := by (first | rfl | (exact Hv h_s bQ))
 have t8 : s.length = s.length := by first | (rw [← d7]; done) | (rw [← d7]; first | rfl | (simp; done) | (simp only [List.length_append, List.length_take, List.length_drop, List.length_set, List.length_replicate, List.length_cons, List.length_nil, List.length_map, Dc, Db]; omega) | (simp; omega))
 exact ⟨ax1, cx1, bc, lQ, (Bd (L := bc) (hw1.perm (List.Perm.refl _)) rfl.symm), (d7 ▸ m7)⟩

theorem eR (w : World) {s_a : Option Addr} {s_c : Nat} {s : List Bool} (h_s : Sl w eB 1 s_a s) (n_s : s.length ≤ 1000000) : Calls Tryz.prog 72 (List.toArray [(vs s_a s.length s_c)]) w fun e w2 => ∃ a1 : Option Addr, ∃ c1 : Nat, ∃ B1 : An, e = .returned (vs a1 s.length c1) ∧ Dj w w2 B1 ∧ Bg eB 1 4 a1 c1 B1 s := by
 have hF := Is.refl s;refine enter func72 ntmps72 (h := ?_);refine Sb ?_;refine Ah (Ym runUnderlying23) (k := ?_);refine Z0 ?_;refine Cx rfl (fun a9 => ?_) (fun a9 => ?_)
 ·refine Bp ?_;refine Qc ?_;refine Ad results72 z1 (fun w1 hw1 => ?_);have d7 : ([] : List Bool) = s := by (first | rfl | (exact Hv h_s bQ))
  have t8 : 0 = s.length := by first | (rw [← d7]; done) | (rw [← d7]; first | rfl | (simp; done) | (simp only [List.length_append, List.length_take, List.length_drop, List.length_set, List.length_replicate, List.length_cons, List.length_nil, List.length_map, Dc, Db]; omega) | (simp; omega))
  exact ⟨none, 0, [], lQ, (hw1.fresh_out.sub Gx), (d7 ▸ Bg.nil)⟩
 refine Nm ?_;refine Aj Af N1 (k := fun r1 p4 => ?_);refine Cr ?_;refine Ba s (List.nil_append _) Ps underlying23 Ds Bg.nil (List.Perm.refl _) (Bv.of_base h_s) ⟨by omega, by omega⟩ (n := 0) (m := s.length) (k := fun ax1 cx1 bc m7 => ?_);refine Z9 ?_;refine Ad results72 z1 (fun w1 hw1 => ?_);have d7 : s = s := by (first | rfl | (exact Hv h_s bQ))
 have t8 : s.length = s.length := by first | (rw [← d7]; done) | (rw [← d7]; first | rfl | (simp; done) | (simp only [List.length_append, List.length_take, List.length_drop, List.length_set, List.length_replicate, List.length_cons, List.length_nil, List.length_map, Dc, Db]; omega) | (simp; omega))
 exact ⟨ax1, cx1, bc, lQ, (Bd (L := bc) (hw1.perm (List.Perm.refl _)) rfl.symm), (d7 ▸ m7)⟩

theorem iP (w : World) {s_gens_a : Option Addr} {s_gens_c : Nat} {s_used_a : Option Addr} {s_used_c : Nat} {s_free_a : Option Addr} {s_free_c : Nat} {s : Slots} (h_s_gens : Sl w eI 1 s_gens_a s.gens) (n_s_gens : s.gens.length ≤ 1000) (h_s_used : Sl w eB 1 s_used_a s.used) (n_s_used : s.used.length ≤ 1000) (h_s_free : Sl w eI 1 s_free_a s.free) (n_s_free : s.free.length ≤ 1000) : Jc Tryz.prog 52 [(Value.agg [(vs s_gens_a s.gens.length s_gens_c), (vs s_used_a s.used.length s_used_c), (vs s_free_a s.free.length s_free_c)].toArray)] w (Value.bool (Fb s)) := by
 have hF := Is.refl (Fb s);refine enter func52 ntmps52 (h := ?_);refine Z2 ?_;refine Aj Af Jq (k := fun r1 p4 => ?_);refine Z1 ?_;refine pL ?_;refine Ah (Eb (cs := [_, _, _]) zeroValue131 rL) (k := ?_);refine Aj Af Jq (k := fun r2 bv => ?_);refine Aj Af (Fk (l := [_, _, _]) runUnderlying184 sizeOf138 zeroValue138) (k := fun r3 iu => ?_);refine Ej (args := [_, _]) (Ai call88) func88 ntmps88 ?_;refine Sb ?_;refine Ah (Fv runUnderlying184) (k := ?_);refine mM ?_;refine O1 ?_;refine Ah (Hx runUnderlying184 sizeOf138 0) (k := ?_);refine Ah (Ca isAgg138) (k := ?_);refine Wr ?_;refine Ej (args := [_]) (Ai call89) func89 ntmps89 ?_;refine gE ?_;refine Fg Cy 32 [(true, 0), (true, 1), (true, 2), (true, 3), (true, 4), (true, 5), (true, 6), (true, 7), (true, 8), (true, 9), (true, 10), (true, 11), (true, 12), (true, 13), (true, 14), (true, 15), (true, 16), (true, 17), (true, 18), (true, 19), (true, 20), (true, 21), (true, 22), (true, 23), (true, 24), (true, 25), (true, 26), (true, 27), (true, 28), (true, 29), (true, 30), (true, 31)] z5 ?_;refine Gg ?_;refine fY ?_;refine Be N8 (k := ?_);refine Be Kn (k := ?_);refine Gg ?_;refine Fh 10 rfl (fun a9 => ?_) (fun a9 => ?_);rotate_left
 ·refine Bn 7 rfl ?_;refine Pk ?_;refine Bn 13 rfl ?_;refine jU ?_;refine Cd results89 z1 ?_;refine AH0 ?_;refine Ad results52 z1 (fun w1 hw1 => ?_);exact ⟨(rq (hF.neg a9)), hw1.ext_out⟩
 refine vQ ?_;refine zS ?_;refine Bm N8 (k := ?_);refine Bm Jf (k := ?_);refine lS ?_;refine Fh 19 rfl (fun b9 => ?_) (fun b9 => ?_);rotate_left
 ·refine Bn 13 rfl ?_;refine jU ?_;refine Cd results89 z1 ?_;refine AH0 ?_;refine Ad results52 z1 (fun w1 hw1 => ?_);exact ⟨(rq ((hF.pos a9).neg b9)), hw1.ext_out⟩
 refine vQ ?_;refine AJ2 ?_;refine Bm (Fv runUnderlying23) (k := ?_);refine vQ ?_;refine zS ?_;refine Bm N8 (k := ?_);refine Bm Gy (k := ?_);refine Be Hn (k := ?_);refine pV ?_;refine Cd results89 z1 ?_;refine bW ?_;refine Av rfl (fun c7 => ?_) (fun c7 => ?_)
 ·refine Bp ?_;refine Xy ?_;refine N5 ?_;refine Ad results52 z1 (fun w1 hw1 => ?_);exact ⟨(rq (((hF.pos a9).pos b9).pos c7)), hw1.ext_out⟩
 refine fZ ?_;refine Ah (Hx runUnderlying184 sizeOf138 1) (k := ?_);refine Ah (Ca isAgg138) (k := ?_);refine Wr ?_;refine Ej (args := [_]) (Ai call90) func90 ntmps90 ?_;refine Zw ?_;refine Zw ?_;refine Z5 ?_;refine jO ?_;refine qH ?_;refine Ej (args := [_, _]) (Ai call129) func129 ntmps129 ?_;refine Zw ?_;refine Qv ?_;refine Ej (args := [_, _]) (Ai call151) func151 ntmps151 ?_;refine Sb ?_;refine qN ?_;refine Rw ?_;refine Fi (σ1 := Nat) (σ2 := Nat) (fun n_2 x_1 => ((r3, oc [(Value.func (.func 89) [].toArray [].toArray), (Value.func (.func 90) [].toArray [].toArray), (Value.func (.func 91) [].toArray [].toArray)] 138) :: ((r2, oc [(vs s_gens_a s.gens.length s_gens_c), (vs s_used_a s.used.length s_used_c), (vs s_free_a s.free.length s_free_c)] 131) :: ((r1, oc [(vs s_gens_a s.gens.length s_gens_c), (vs s_used_a s.used.length s_used_c), (vs s_free_a s.free.length s_free_c)] 25) :: [])))) (fun n_2 x_1 => [(0, (vs s_gens_a s.gens.length s_gens_c)), (1, (Value.func (.func 128) [].toArray [].toArray)), (4, (vi 0)), (7, (vi ((s.gens.length : Nat) : Int))), (8, (vi ((x_1 : Nat) : Int)))]) (fun n_2 x_1 => s.gens.length - x_1 < n_2 ∧ Is (Fq s (s.gens.length + 1) 0) (Fq s n_2 x_1) ∧ x_1 ≤ s.gens.length) (fun n_2 x_1 => n_2) (s.gens.length + 1) 0 ?_ se (List.Perm.refl _) ?_
 ·exact ⟨Nat.lt_succ_self _, Is.refl _, Na⟩
 ·rintro (_ | n_2) x_1 ⟨hm4, j4, hi5⟩
  ·omega
  refine gZ ?_;refine Av rfl (fun c8 => ?_) (fun c8 => ?_);rotate_left
  ·refine Cz ?_;refine Qd ?_;refine AJ3 ?_;refine Z9 ?_;refine Cd results129 z1 ?_;refine Ah Ml (k := ?_);refine Z9 ?_;refine Cd results90 z1 ?_;refine Zu ?_;refine fR ?_;refine AH5 ?_;refine AI8 ?_;refine Ry ?_;refine Aj Af iD (k := fun pk pd => ?_);refine Lo ?_;refine jO ?_;refine jT ?_;refine Rw ?_;refine cK (σ1 := Nat) (σ2 := Nat) (σ3 := List Int) (σ4 := Array MapEntry) (σ5 := Nat) (fun n_34 x_32 x_33 fi gh => ((pk, Obj.map fi gh) :: ((r3, oc [(Value.func (.func 89) [].toArray [].toArray), (Value.func (.func 90) [].toArray [].toArray), (Value.func (.func 91) [].toArray [].toArray)] 138) :: ((r2, oc [(vs s_gens_a s.gens.length s_gens_c), (vs s_used_a s.used.length s_used_c), (vs s_free_a s.free.length s_free_c)] 131) :: ((r1, oc [(vs s_gens_a s.gens.length s_gens_c), (vs s_used_a s.used.length s_used_c), (vs s_free_a s.free.length s_free_c)] 25) :: []))))) (fun n_34 x_32 x_33 fi gh => [(0, (Value.pointer (some ⟨r2, 0, none⟩))), (2, (Value.bool false)), (3, (Value.map (some pk))), (12, (vs s_free_a s.free.length s_free_c)), (13, (vi ((s.free.length : Nat) : Int))), (14, (vi ((x_32 : Nat) : Int)))]) (fun n_34 x_32 x_33 fi gh => s.free.length - x_32 < n_34 ∧ Is (Fc s x_1 (s.free.length + 1) 0 ([] : List Int)) (Fc s x_1 n_34 x_32 x_33) ∧ Ny (fun x : Int => vi x) fi x_33 ∧ x_32 ≤ s.free.length) (fun n_34 x_32 x_33 fi gh => n_34) (s.free.length + 1) 0 ([] : List Int) (#[]) 0 ?_ se (List.Perm.refl _) ?_
   ·exact ⟨Nat.lt_succ_self _, Is.refl _, Ny.nil, Na⟩
   ·rintro (_ | n_34) x_32 x_33 fi gh ⟨hm36, jw, ph, hi37⟩
    ·omega
    refine gZ ?_;refine Av rfl (fun p7 => ?_) (fun p7 => ?_);rotate_left
    ·refine Cz ?_;refine mS ?_;refine jO ?_;refine zZ ?_;refine Aj Af (Dt (l := [_]) zeroValue3) (k := fun gc pe => ?_);refine S1 ?_;refine Z5 ?_;refine Q8 ?_;refine Aj Af (Ko (l := [_])) (k := fun ic pf => ?_);refine mU ?_;refine Z9 ?_;refine S3 ?_;refine Lw Af rfl call126 func126 ntmps126 (fun l15 rD15 rr15 hl15 => ?_);refine mY ?_;refine mX ?_;refine Z2 ?_;refine T3 ?_;refine A0 ?_;refine Rw ?_;refine cJ (σ1 := Nat) (σ2 := Nat) (σ3 := Int) (fun n_40 x_38 x_39 => ((l15, Dr rr15 .ready none) :: ((rD15, Obj.deferred (some [])) :: ((ic, oc [(Value.pointer (some ⟨r2, 0, none⟩))] 129) :: ((gc, oc [(vi x_39)] 3) :: ((pk, Obj.map fi gh) :: ((r3, oc [(Value.func (.func 89) [].toArray [].toArray), (Value.func (.func 90) [].toArray [].toArray), (Value.func (.func 91) [].toArray [].toArray)] 138) :: ((r2, oc [(vs s_gens_a s.gens.length s_gens_c), (vs s_used_a s.used.length s_used_c), (vs s_free_a s.free.length s_free_c)] 131) :: ((r1, oc [(vs s_gens_a s.gens.length s_gens_c), (vs s_used_a s.used.length s_used_c), (vs s_free_a s.free.length s_free_c)] 25) :: []))))))))) (fun n_40 x_38 x_39 => [(0, (Value.func (.yield l15) [].toArray [].toArray)), (1, (Value.pointer (some ⟨ic, 0, none⟩))), (9, (vs s_used_a s.used.length s_used_c)), (10, (vi ((s.used.length : Nat) : Int))), (11, (vi ((x_38 : Nat) : Int)))]) (fun n_40 x_38 x_39 => s.used.length - x_38 < n_40 ∧ Is (Hg s x_1 x_32 x_33 (s.used.length + 1) 0 ((s.gens.length : Nat) : Int)) (Hg s x_1 x_32 x_33 n_40 x_38 x_39) ∧ x_38 ≤ s.used.length ∧ (0 ≤ x_39 + ((x_38 : Nat) : Int) ∧ x_39 ≤ 1000)) (fun n_40 x_38 x_39 => n_40) (s.used.length + 1) 0 ((s.gens.length : Nat) : Int) ?_ se (List.Perm.refl _) ?_
     ·exact ⟨Nat.lt_succ_self _, Is.refl _, Na, Na⟩
     ·rintro (_ | n_40) x_38 x_39 ⟨hm42, qu, hi43, hi44⟩
      ·omega
      refine gZ ?_;refine Av rfl (fun bu => ?_) (fun bu => ?_)
      ·refine Bt ?_;refine Hq ?_;refine Wt ?_;refine Ah (Cj (n := s.used.length) runUnderlying23 sizeOf4 x_38 Sq (gD z3) Km) (k := ?_);refine Ah (Cb isAgg4 x_38 0 Sq (gD z3)) (k := ?_);refine Oo ?_;refine Wr ?_;refine Dq 17 rfl (fun dh => ?_) (fun dh => ?_);rotate_left
       ·refine Ag 13 rfl ?_;refine Rt ?_;refine bZ ?_;exact Ov n_40 (x_38 + 1) x_39 ⟨by omega, ((qu.pos bu).f dh), pI, pI⟩ (Nat.lt_succ_self _) se (List.Perm.refl _)
       refine T2 ?_;refine fQ ?_;refine zT ?_;refine Hw ?_;refine Ay (Cj (n := s.gens.length) runUnderlying22 sizeOf3 x_38 Sp (gD z3) Km) (k := ?_);refine Ay (Cb isAgg3 x_38 0 Sp (gD z3)) (k := ?_);refine A3 ?_;refine Et (vs := [(Value.agg [(vi ((x_38 : Nat) : Int)), (vi (s.gens.getD x_38 default))].toArray)]) hl15 q0 Fo ?_;refine Bt ?_;refine Yj q0 ?_;refine Jm ?_;refine Ch ?_;refine S2 ?_;refine qO ?_;refine fV ?_;refine La q0 ?_;refine Ay Ml (k := ?_);refine zF ?_;refine bZ ?_;exact Ov n_40 (x_38 + 1) (x_39 - 1) ⟨by omega, ((qu.pos bu).t dh), pI, pI⟩ (Nat.lt_succ_self _) se (List.Perm.refl _)
      refine Cz ?_;refine Sa ?_;refine Mg (.inr rfl) results126 q0 ?_;refine Vw ?_;refine Z2 ?_;refine S0 ?_;refine Ah (kW runUnderlying142 ph) (k := ?_);refine Ah Gy (k := ?_);refine Z9 ?_;refine Yp [rD15] (qa q0) results91 z1 ?_;refine bW ?_;refine Av rfl (fun cm => ?_) (fun cm => ?_)
      ·refine Bp ?_;refine Xy ?_;refine N5 ?_;refine Ad results52 z1 (fun w1 hw1 => ?_);exact ⟨(rq (((((((hF.pos a9).pos b9).neg c7).ok1 (j4.neg c8)).ok2 (jw.neg p7)).rn2 (qu.neg bu)).pos cm)), hw1.ext_out⟩
      refine Ya ?_;refine Qd ?_;refine N5 ?_;refine Ad results52 z1 (fun w1 hw1 => ?_);exact ⟨(rq (((((((hF.pos a9).pos b9).neg c7).ok1 (j4.neg c8)).ok2 (jw.neg p7)).rn2 (qu.neg bu)).neg cm)), hw1.ext_out⟩
    refine gA ?_;refine Ah (Cj (n := s.free.length) runUnderlying22 sizeOf3 x_32 Xu (gD z3) Km) (k := ?_);refine Ah (Cb isAgg3 x_32 0 Xu (gD z3)) (k := ?_);refine Lo ?_;refine Qb ?_;refine Ar 20 rfl (fun bj => ?_) (fun bj => ?_)
    ·refine Ag 8 rfl ?_;refine Sn ?_;refine Ag 8 rfl ?_;refine Xx ?_;refine jY ?_;refine Ad results52 z1 (fun w1 hw1 => ?_);exact ⟨(rq (((((hF.pos a9).pos b9).neg c7).ok1 (j4.neg c8)).er2 ((jw.pos p7).pos bj))), hw1.ext_out⟩
    refine Xw ?_;refine fQ ?_;refine vK ?_;refine Ay Kn (k := ?_);refine Pz ?_;refine Ar 30 rfl (fun ap => ?_) (fun ap => ?_)
    ·refine Ag 8 rfl ?_;refine Xx ?_;refine jY ?_;refine Ad results52 z1 (fun w1 hw1 => ?_);exact ⟨(rq (((((hF.pos a9).pos b9).neg c7).ok1 (j4.neg c8)).er2 (((jw.pos p7).neg bj).pos ap))), hw1.ext_out⟩
    refine Hw ?_;refine fQ ?_;refine O8 ?_;refine Hw ?_;refine Ay (Cj (n := s.used.length) runUnderlying23 sizeOf4 ((s.free.getD x_32 default).toNat) Sq (gD z3) Km) (k := ?_);refine Ay (Cb isAgg4 ((s.free.getD x_32 default).toNat) 0 Sq (gD z3)) (k := ?_);refine Pz ?_;refine Dq 40 rfl (fun bk => ?_) (fun bk => ?_)
    ·refine Ag 3 rfl ?_;refine jY ?_;refine Ad results52 z1 (fun w1 hw1 => ?_);exact ⟨(rq (((((hF.pos a9).pos b9).neg c7).ok1 (j4.neg c8)).er2 ((((jw.pos p7).neg bj).neg ap).t bk))), hw1.ext_out⟩
    refine Xw ?_;refine Ay (Yt (xs := x_33) (s.free.getD x_32 default) Fz runUnderlying142 runUnderlying3 zeroValue4 ph) (k := ?_);refine Rt ?_;refine Av rfl (fun al => ?_) (fun al => ?_);rotate_left
    ·refine Bt ?_;refine Hq ?_;refine jR ?_;refine cN (xs := x_33) (s.free.getD x_32 default) Fz runUnderlying142 runUnderlying3 ph bQ q0 (k := fun em9 km9 hms9 => ?_);refine Gz ?_;refine dD ?_;exact cL n_34 (x_32 + 1) (x_33 ++ [(s.free.getD x_32 default)]) em9 km9 ⟨by omega, (((((jw.pos p7).neg bj).neg ap).f bk).neg al), hms9, z4⟩ (Nat.lt_succ_self _) se (List.Perm.refl _)
    refine Z2 ?_;refine Qa ?_;refine R7 ?_;refine Ad results52 z1 (fun w1 hw1 => ?_);exact ⟨(rq (((((hF.pos a9).pos b9).neg c7).ok1 (j4.neg c8)).er2 (((((jw.pos p7).neg bj).neg ap).f bk).pos al))), hw1.ext_out⟩
  refine Qf ?_;refine Z5 ?_;refine Wr ?_;refine Cr ?_;refine Ah (Cj (n := s.gens.length) runUnderlying22 sizeOf3 x_1 Sp (gD z3) Km) (k := ?_);refine Ah (Cb isAgg3 x_1 0 Sp (gD z3)) (k := ?_);refine Ej (args := [_]) (Ai call128) func128 ntmps128 ?_;refine Zw ?_;refine Z5 ?_;refine Qb ?_;refine Ar 5 rfl (fun d5 => ?_) (fun d5 => ?_)
  ·refine Ag 2 rfl ?_;refine Kt ?_;refine Cd results128 z1 ?_;refine Z0 ?_;refine Nn rfl ?_;refine Z5 ?_;refine pW ?_;refine AJ3 ?_;refine Z9 ?_;refine Cd results129 z1 ?_;refine Ah qS (k := ?_);refine Z9 ?_;refine Cd results90 z1 ?_;refine bW ?_;refine Av rfl (fun d8 => ?_) (fun d8 => ?_)
   ·refine Bp ?_;refine Xy ?_;refine N5 ?_;refine Ad results52 z1 (fun w1 hw1 => ?_);exact ⟨(rq (((((hF.pos a9).pos b9).neg c7).er1 ((j4.pos c8).pos d5)).pos d8)), hw1.ext_out⟩
   refine fZ ?_;refine AH5 ?_;refine AI8 ?_;refine Ry ?_;refine Aj Af iD (k := fun r4 jl => ?_);refine Lo ?_;refine jO ?_;refine jT ?_;refine Rw ?_;refine cK (σ1 := Nat) (σ2 := Nat) (σ3 := List Int) (σ4 := Array MapEntry) (σ5 := Nat) (fun n_8 x_6 x_7 kx mv => ((r4, Obj.map kx mv) :: ((r3, oc [(Value.func (.func 89) [].toArray [].toArray), (Value.func (.func 90) [].toArray [].toArray), (Value.func (.func 91) [].toArray [].toArray)] 138) :: ((r2, oc [(vs s_gens_a s.gens.length s_gens_c), (vs s_used_a s.used.length s_used_c), (vs s_free_a s.free.length s_free_c)] 131) :: ((r1, oc [(vs s_gens_a s.gens.length s_gens_c), (vs s_used_a s.used.length s_used_c), (vs s_free_a s.free.length s_free_c)] 25) :: []))))) (fun n_8 x_6 x_7 kx mv => [(0, (Value.pointer (some ⟨r2, 0, none⟩))), (2, (Value.bool false)), (3, (Value.map (some r4))), (12, (vs s_free_a s.free.length s_free_c)), (13, (vi ((s.free.length : Nat) : Int))), (14, (vi ((x_6 : Nat) : Int)))]) (fun n_8 x_6 x_7 kx mv => s.free.length - x_6 < n_8 ∧ Is (Uv s x_1 (s.free.length + 1) 0 ([] : List Int)) (Uv s x_1 n_8 x_6 x_7) ∧ Ny (fun x : Int => vi x) kx x_7 ∧ x_6 ≤ s.free.length) (fun n_8 x_6 x_7 kx mv => n_8) (s.free.length + 1) 0 ([] : List Int) (#[]) 0 ?_ se (List.Perm.refl _) ?_
   ·exact ⟨Nat.lt_succ_self _, Is.refl _, Ny.nil, Na⟩
   ·rintro (_ | n_8) x_6 x_7 kx mv ⟨hm10, jk, ia, hi11⟩
    ·omega
    refine gZ ?_;refine Av rfl (fun k6 => ?_) (fun k6 => ?_);rotate_left
    ·refine Cz ?_;refine mS ?_;refine jO ?_;refine zZ ?_;refine Aj Af (Dt (l := [_]) zeroValue3) (k := fun r5 qk => ?_);refine S1 ?_;refine Z5 ?_;refine Q8 ?_;refine Aj Af (Ko (l := [_])) (k := fun r6 ql => ?_);refine mU ?_;refine Z9 ?_;refine S3 ?_;refine Lw Af rfl call126 func126 ntmps126 (fun l7 rD7 rr7 hl7 => ?_);refine mY ?_;refine mX ?_;refine Z2 ?_;refine T3 ?_;refine A0 ?_;refine Rw ?_;refine cJ (σ1 := Nat) (σ2 := Nat) (σ3 := Int) (fun n_14 x_12 x_13 => ((l7, Dr rr7 .ready none) :: ((rD7, Obj.deferred (some [])) :: ((r6, oc [(Value.pointer (some ⟨r2, 0, none⟩))] 129) :: ((r5, oc [(vi x_13)] 3) :: ((r4, Obj.map kx mv) :: ((r3, oc [(Value.func (.func 89) [].toArray [].toArray), (Value.func (.func 90) [].toArray [].toArray), (Value.func (.func 91) [].toArray [].toArray)] 138) :: ((r2, oc [(vs s_gens_a s.gens.length s_gens_c), (vs s_used_a s.used.length s_used_c), (vs s_free_a s.free.length s_free_c)] 131) :: ((r1, oc [(vs s_gens_a s.gens.length s_gens_c), (vs s_used_a s.used.length s_used_c), (vs s_free_a s.free.length s_free_c)] 25) :: []))))))))) (fun n_14 x_12 x_13 => [(0, (Value.func (.yield l7) [].toArray [].toArray)), (1, (Value.pointer (some ⟨r6, 0, none⟩))), (9, (vs s_used_a s.used.length s_used_c)), (10, (vi ((s.used.length : Nat) : Int))), (11, (vi ((x_12 : Nat) : Int)))]) (fun n_14 x_12 x_13 => s.used.length - x_12 < n_14 ∧ Is (Qn s x_1 x_6 x_7 (s.used.length + 1) 0 ((s.gens.length : Nat) : Int)) (Qn s x_1 x_6 x_7 n_14 x_12 x_13) ∧ x_12 ≤ s.used.length ∧ (0 ≤ x_13 + ((x_12 : Nat) : Int) ∧ x_13 ≤ 1000)) (fun n_14 x_12 x_13 => n_14) (s.used.length + 1) 0 ((s.gens.length : Nat) : Int) ?_ se (List.Perm.refl _) ?_
     ·exact ⟨Nat.lt_succ_self _, Is.refl _, Na, Na⟩
     ·rintro (_ | n_14) x_12 x_13 ⟨hm16, io, hi17, hi18⟩
      ·omega
      refine gZ ?_;refine Av rfl (fun g9 => ?_) (fun g9 => ?_)
      ·refine Bt ?_;refine Hq ?_;refine Wt ?_;refine Ah (Cj (n := s.used.length) runUnderlying23 sizeOf4 x_12 Sq (gD z3) Km) (k := ?_);refine Ah (Cb isAgg4 x_12 0 Sq (gD z3)) (k := ?_);refine Oo ?_;refine Wr ?_;refine Dq 17 rfl (fun i0 => ?_) (fun i0 => ?_);rotate_left
       ·refine Ag 13 rfl ?_;refine Rt ?_;refine bZ ?_;exact Ov n_14 (x_12 + 1) x_13 ⟨by omega, ((io.pos g9).f i0), pI, pI⟩ (Nat.lt_succ_self _) se (List.Perm.refl _)
       refine T2 ?_;refine fQ ?_;refine zT ?_;refine Hw ?_;refine Ay (Cj (n := s.gens.length) runUnderlying22 sizeOf3 x_12 Sp (gD z3) Km) (k := ?_);refine Ay (Cb isAgg3 x_12 0 Sp (gD z3)) (k := ?_);refine A3 ?_;refine Et (vs := [(Value.agg [(vi ((x_12 : Nat) : Int)), (vi (s.gens.getD x_12 default))].toArray)]) hl7 q0 Fo ?_;refine Bt ?_;refine Yj q0 ?_;refine Jm ?_;refine Ch ?_;refine S2 ?_;refine qO ?_;refine fV ?_;refine La q0 ?_;refine Ay Ml (k := ?_);refine zF ?_;refine bZ ?_;exact Ov n_14 (x_12 + 1) (x_13 - 1) ⟨by omega, ((io.pos g9).t i0), pI, pI⟩ (Nat.lt_succ_self _) se (List.Perm.refl _)
      refine Cz ?_;refine Sa ?_;refine Mg (.inr rfl) results126 q0 ?_;refine Vw ?_;refine Z2 ?_;refine S0 ?_;refine Ah (kW runUnderlying142 ia) (k := ?_);refine Ah Gy (k := ?_);refine Z9 ?_;refine Yp [rD7] (qa q0) results91 z1 ?_;refine bW ?_;refine Av rfl (fun w4 => ?_) (fun w4 => ?_)
      ·refine Bp ?_;refine Xy ?_;refine N5 ?_;refine Ad results52 z1 (fun w1 hw1 => ?_);exact ⟨(rq ((((((((hF.pos a9).pos b9).neg c7).er1 ((j4.pos c8).pos d5)).neg d8).ok2 (jk.neg k6)).rn2 (io.neg g9)).pos w4)), hw1.ext_out⟩
      refine Ya ?_;refine Qd ?_;refine N5 ?_;refine Ad results52 z1 (fun w1 hw1 => ?_);exact ⟨(rq ((((((((hF.pos a9).pos b9).neg c7).er1 ((j4.pos c8).pos d5)).neg d8).ok2 (jk.neg k6)).rn2 (io.neg g9)).neg w4)), hw1.ext_out⟩
    refine gA ?_;refine Ah (Cj (n := s.free.length) runUnderlying22 sizeOf3 x_6 Xu (gD z3) Km) (k := ?_);refine Ah (Cb isAgg3 x_6 0 Xu (gD z3)) (k := ?_);refine Lo ?_;refine Qb ?_;refine Ar 20 rfl (fun i7 => ?_) (fun i7 => ?_)
    ·refine Ag 8 rfl ?_;refine Sn ?_;refine Ag 8 rfl ?_;refine Xx ?_;refine jY ?_;refine Ad results52 z1 (fun w1 hw1 => ?_);exact ⟨(rq ((((((hF.pos a9).pos b9).neg c7).er1 ((j4.pos c8).pos d5)).neg d8).er2 ((jk.pos k6).pos i7))), hw1.ext_out⟩
    refine Xw ?_;refine fQ ?_;refine vK ?_;refine Ay Kn (k := ?_);refine Pz ?_;refine Ar 30 rfl (fun j0 => ?_) (fun j0 => ?_)
    ·refine Ag 8 rfl ?_;refine Xx ?_;refine jY ?_;refine Ad results52 z1 (fun w1 hw1 => ?_);exact ⟨(rq ((((((hF.pos a9).pos b9).neg c7).er1 ((j4.pos c8).pos d5)).neg d8).er2 (((jk.pos k6).neg i7).pos j0))), hw1.ext_out⟩
    refine Hw ?_;refine fQ ?_;refine O8 ?_;refine Hw ?_;refine Ay (Cj (n := s.used.length) runUnderlying23 sizeOf4 ((s.free.getD x_6 default).toNat) Sq (gD z3) Km) (k := ?_);refine Ay (Cb isAgg4 ((s.free.getD x_6 default).toNat) 0 Sq (gD z3)) (k := ?_);refine Pz ?_;refine Dq 40 rfl (fun f9 => ?_) (fun f9 => ?_)
    ·refine Ag 3 rfl ?_;refine jY ?_;refine Ad results52 z1 (fun w1 hw1 => ?_);exact ⟨(rq ((((((hF.pos a9).pos b9).neg c7).er1 ((j4.pos c8).pos d5)).neg d8).er2 ((((jk.pos k6).neg i7).neg j0).t f9))), hw1.ext_out⟩
    refine Xw ?_;refine Ay (Yt (xs := x_7) (s.free.getD x_6 default) Fz runUnderlying142 runUnderlying3 zeroValue4 ia) (k := ?_);refine Rt ?_;refine Av rfl (fun j5 => ?_) (fun j5 => ?_);rotate_left
    ·refine Bt ?_;refine Hq ?_;refine jR ?_;refine cN (xs := x_7) (s.free.getD x_6 default) Fz runUnderlying142 runUnderlying3 ia bQ q0 (k := fun em3 km3 hms3 => ?_);refine Gz ?_;refine dD ?_;exact cL n_8 (x_6 + 1) (x_7 ++ [(s.free.getD x_6 default)]) em3 km3 ⟨by omega, (((((jk.pos k6).neg i7).neg j0).f f9).neg j5), hms3, z4⟩ (Nat.lt_succ_self _) se (List.Perm.refl _)
    refine Z2 ?_;refine Qa ?_;refine R7 ?_;refine Ad results52 z1 (fun w1 hw1 => ?_);exact ⟨(rq ((((((hF.pos a9).pos b9).neg c7).er1 ((j4.pos c8).pos d5)).neg d8).er2 (((((jk.pos k6).neg i7).neg j0).f f9).pos j5))), hw1.ext_out⟩
  refine bT ?_;refine Ok ?_;refine Cd results128 z1 ?_;refine Z0 ?_;refine Av rfl (fun j8 => ?_) (fun j8 => ?_);rotate_left
  ·refine Bt ?_;refine dD ?_;exact Ez n_2 (x_1 + 1) ⟨by omega, (((j4.pos c8).neg d5).neg j8), z4⟩ (Nat.lt_succ_self _) se (List.Perm.refl _)
  refine Z5 ?_;refine pW ?_;refine AJ3 ?_;refine Z9 ?_;refine Cd results129 z1 ?_;refine Ah qS (k := ?_);refine Z9 ?_;refine Cd results90 z1 ?_;refine bW ?_;refine Av rfl (fun k0 => ?_) (fun k0 => ?_)
  ·refine Bp ?_;refine Xy ?_;refine N5 ?_;refine Ad results52 z1 (fun w1 hw1 => ?_);exact ⟨(rq (((((hF.pos a9).pos b9).neg c7).er1 (((j4.pos c8).neg d5).pos j8)).pos k0)), hw1.ext_out⟩
  refine fZ ?_;refine AH5 ?_;refine AI8 ?_;refine Ry ?_;refine Aj Af iD (k := fun r8 ub => ?_);refine Lo ?_;refine jO ?_;refine jT ?_;refine Rw ?_;refine cK (σ1 := Nat) (σ2 := Nat) (σ3 := List Int) (σ4 := Array MapEntry) (σ5 := Nat) (fun n_21 x_19 x_20 ff gd => ((r8, Obj.map ff gd) :: ((r3, oc [(Value.func (.func 89) [].toArray [].toArray), (Value.func (.func 90) [].toArray [].toArray), (Value.func (.func 91) [].toArray [].toArray)] 138) :: ((r2, oc [(vs s_gens_a s.gens.length s_gens_c), (vs s_used_a s.used.length s_used_c), (vs s_free_a s.free.length s_free_c)] 131) :: ((r1, oc [(vs s_gens_a s.gens.length s_gens_c), (vs s_used_a s.used.length s_used_c), (vs s_free_a s.free.length s_free_c)] 25) :: []))))) (fun n_21 x_19 x_20 ff gd => [(0, (Value.pointer (some ⟨r2, 0, none⟩))), (2, (Value.bool false)), (3, (Value.map (some r8))), (12, (vs s_free_a s.free.length s_free_c)), (13, (vi ((s.free.length : Nat) : Int))), (14, (vi ((x_19 : Nat) : Int)))]) (fun n_21 x_19 x_20 ff gd => s.free.length - x_19 < n_21 ∧ Is (Uw s x_1 (s.free.length + 1) 0 ([] : List Int)) (Uw s x_1 n_21 x_19 x_20) ∧ Ny (fun x : Int => vi x) ff x_20 ∧ x_19 ≤ s.free.length) (fun n_21 x_19 x_20 ff gd => n_21) (s.free.length + 1) 0 ([] : List Int) (#[]) 0 ?_ se (List.Perm.refl _) ?_
  ·exact ⟨Nat.lt_succ_self _, Is.refl _, Ny.nil, Na⟩
  ·rintro (_ | n_21) x_19 x_20 ff gd ⟨hm23, jv, lj, hi24⟩
   ·omega
   refine gZ ?_;refine Av rfl (fun t7 => ?_) (fun t7 => ?_);rotate_left
   ·refine Cz ?_;refine mS ?_;refine jO ?_;refine zZ ?_;refine Aj Af (Dt (l := [_]) zeroValue3) (k := fun r9 xe => ?_);refine S1 ?_;refine Z5 ?_;refine Q8 ?_;refine Aj Af (Ko (l := [_])) (k := fun kr mj => ?_);refine mU ?_;refine Z9 ?_;refine S3 ?_;refine Lw Af rfl call126 func126 ntmps126 (fun l11 rD11 rr11 hl11 => ?_);refine mY ?_;refine mX ?_;refine Z2 ?_;refine T3 ?_;refine A0 ?_;refine Rw ?_;refine cJ (σ1 := Nat) (σ2 := Nat) (σ3 := Int) (fun n_27 x_25 x_26 => ((l11, Dr rr11 .ready none) :: ((rD11, Obj.deferred (some [])) :: ((kr, oc [(Value.pointer (some ⟨r2, 0, none⟩))] 129) :: ((r9, oc [(vi x_26)] 3) :: ((r8, Obj.map ff gd) :: ((r3, oc [(Value.func (.func 89) [].toArray [].toArray), (Value.func (.func 90) [].toArray [].toArray), (Value.func (.func 91) [].toArray [].toArray)] 138) :: ((r2, oc [(vs s_gens_a s.gens.length s_gens_c), (vs s_used_a s.used.length s_used_c), (vs s_free_a s.free.length s_free_c)] 131) :: ((r1, oc [(vs s_gens_a s.gens.length s_gens_c), (vs s_used_a s.used.length s_used_c), (vs s_free_a s.free.length s_free_c)] 25) :: []))))))))) (fun n_27 x_25 x_26 => [(0, (Value.func (.yield l11) [].toArray [].toArray)), (1, (Value.pointer (some ⟨kr, 0, none⟩))), (9, (vs s_used_a s.used.length s_used_c)), (10, (vi ((s.used.length : Nat) : Int))), (11, (vi ((x_25 : Nat) : Int)))]) (fun n_27 x_25 x_26 => s.used.length - x_25 < n_27 ∧ Is (Qo s x_1 x_19 x_20 (s.used.length + 1) 0 ((s.gens.length : Nat) : Int)) (Qo s x_1 x_19 x_20 n_27 x_25 x_26) ∧ x_25 ≤ s.used.length ∧ (0 ≤ x_26 + ((x_25 : Nat) : Int) ∧ x_26 ≤ 1000)) (fun n_27 x_25 x_26 => n_27) (s.used.length + 1) 0 ((s.gens.length : Nat) : Int) ?_ se (List.Perm.refl _) ?_
    ·exact ⟨Nat.lt_succ_self _, Is.refl _, Na, Na⟩
    ·rintro (_ | n_27) x_25 x_26 ⟨hm29, qt, hi30, hi31⟩
     ·omega
     refine gZ ?_;refine Av rfl (fun m9 => ?_) (fun m9 => ?_)
     ·refine Bt ?_;refine Hq ?_;refine Wt ?_;refine Ah (Cj (n := s.used.length) runUnderlying23 sizeOf4 x_25 Sq (gD z3) Km) (k := ?_);refine Ah (Cb isAgg4 x_25 0 Sq (gD z3)) (k := ?_);refine Oo ?_;refine Wr ?_;refine Dq 17 rfl (fun cl => ?_) (fun cl => ?_);rotate_left
      ·refine Ag 13 rfl ?_;refine Rt ?_;refine bZ ?_;exact Ov n_27 (x_25 + 1) x_26 ⟨by omega, ((qt.pos m9).f cl), pI, pI⟩ (Nat.lt_succ_self _) se (List.Perm.refl _)
      refine T2 ?_;refine fQ ?_;refine zT ?_;refine Hw ?_;refine Ay (Cj (n := s.gens.length) runUnderlying22 sizeOf3 x_25 Sp (gD z3) Km) (k := ?_);refine Ay (Cb isAgg3 x_25 0 Sp (gD z3)) (k := ?_);refine A3 ?_;refine Et (vs := [(Value.agg [(vi ((x_25 : Nat) : Int)), (vi (s.gens.getD x_25 default))].toArray)]) hl11 q0 Fo ?_;refine Bt ?_;refine Yj q0 ?_;refine Jm ?_;refine Ch ?_;refine S2 ?_;refine qO ?_;refine fV ?_;refine La q0 ?_;refine Ay Ml (k := ?_);refine zF ?_;refine bZ ?_;exact Ov n_27 (x_25 + 1) (x_26 - 1) ⟨by omega, ((qt.pos m9).t cl), pI, pI⟩ (Nat.lt_succ_self _) se (List.Perm.refl _)
     refine Cz ?_;refine Sa ?_;refine Mg (.inr rfl) results126 q0 ?_;refine Vw ?_;refine Z2 ?_;refine S0 ?_;refine Ah (kW runUnderlying142 lj) (k := ?_);refine Ah Gy (k := ?_);refine Z9 ?_;refine Yp [rD11] (qa q0) results91 z1 ?_;refine bW ?_;refine Av rfl (fun ct => ?_) (fun ct => ?_)
     ·refine Bp ?_;refine Xy ?_;refine N5 ?_;refine Ad results52 z1 (fun w1 hw1 => ?_);exact ⟨(rq ((((((((hF.pos a9).pos b9).neg c7).er1 (((j4.pos c8).neg d5).pos j8)).neg k0).ok2 (jv.neg t7)).rn2 (qt.neg m9)).pos ct)), hw1.ext_out⟩
     refine Ya ?_;refine Qd ?_;refine N5 ?_;refine Ad results52 z1 (fun w1 hw1 => ?_);exact ⟨(rq ((((((((hF.pos a9).pos b9).neg c7).er1 (((j4.pos c8).neg d5).pos j8)).neg k0).ok2 (jv.neg t7)).rn2 (qt.neg m9)).neg ct)), hw1.ext_out⟩
   refine gA ?_;refine Ah (Cj (n := s.free.length) runUnderlying22 sizeOf3 x_19 Xu (gD z3) Km) (k := ?_);refine Ah (Cb isAgg3 x_19 0 Xu (gD z3)) (k := ?_);refine Lo ?_;refine Qb ?_;refine Ar 20 rfl (fun j6 => ?_) (fun j6 => ?_)
   ·refine Ag 8 rfl ?_;refine Sn ?_;refine Ag 8 rfl ?_;refine Xx ?_;refine jY ?_;refine Ad results52 z1 (fun w1 hw1 => ?_);exact ⟨(rq ((((((hF.pos a9).pos b9).neg c7).er1 (((j4.pos c8).neg d5).pos j8)).neg k0).er2 ((jv.pos t7).pos j6))), hw1.ext_out⟩
   refine Xw ?_;refine fQ ?_;refine vK ?_;refine Ay Kn (k := ?_);refine Pz ?_;refine Ar 30 rfl (fun w5 => ?_) (fun w5 => ?_)
   ·refine Ag 8 rfl ?_;refine Xx ?_;refine jY ?_;refine Ad results52 z1 (fun w1 hw1 => ?_);exact ⟨(rq ((((((hF.pos a9).pos b9).neg c7).er1 (((j4.pos c8).neg d5).pos j8)).neg k0).er2 (((jv.pos t7).neg j6).pos w5))), hw1.ext_out⟩
   refine Hw ?_;refine fQ ?_;refine O8 ?_;refine Hw ?_;refine Ay (Cj (n := s.used.length) runUnderlying23 sizeOf4 ((s.free.getD x_19 default).toNat) Sq (gD z3) Km) (k := ?_);refine Ay (Cb isAgg4 ((s.free.getD x_19 default).toNat) 0 Sq (gD z3)) (k := ?_);refine Pz ?_;refine Dq 40 rfl (fun m3 => ?_) (fun m3 => ?_)
   ·refine Ag 3 rfl ?_;refine jY ?_;refine Ad results52 z1 (fun w1 hw1 => ?_);exact ⟨(rq ((((((hF.pos a9).pos b9).neg c7).er1 (((j4.pos c8).neg d5).pos j8)).neg k0).er2 ((((jv.pos t7).neg j6).neg w5).t m3))), hw1.ext_out⟩
   refine Xw ?_;refine Ay (Yt (xs := x_20) (s.free.getD x_19 default) Fz runUnderlying142 runUnderlying3 zeroValue4 lj) (k := ?_);refine Rt ?_;refine Av rfl (fun y7 => ?_) (fun y7 => ?_);rotate_left
   ·refine Bt ?_;refine Hq ?_;refine jR ?_;refine cN (xs := x_20) (s.free.getD x_19 default) Fz runUnderlying142 runUnderlying3 lj bQ q0 (k := fun em6 km6 hms6 => ?_);refine Gz ?_;refine dD ?_;exact cL n_21 (x_19 + 1) (x_20 ++ [(s.free.getD x_19 default)]) em6 km6 ⟨by omega, (((((jv.pos t7).neg j6).neg w5).f m3).neg y7), hms6, z4⟩ (Nat.lt_succ_self _) se (List.Perm.refl _)
   refine Z2 ?_;refine Qa ?_;refine R7 ?_;refine Ad results52 z1 (fun w1 hw1 => ?_);exact ⟨(rq ((((((hF.pos a9).pos b9).neg c7).er1 (((j4.pos c8).neg d5).pos j8)).neg k0).er2 (((((jv.pos t7).neg j6).neg w5).f m3).pos y7))), hw1.ext_out⟩

theorem tS (w : World) {s_gens_a : Option Addr} {s_gens_c : Nat} {s_used_a : Option Addr} {s_used_c : Nat} {s_free_a : Option Addr} {s_free_c : Nat} {s : Slots} (h_s_gens : Sl w eI 1 s_gens_a s.gens) (n_s_gens : s.gens.length ≤ 1000) (h_s_used : Sl w eB 1 s_used_a s.used) (n_s_used : s.used.length ≤ 1000) (h_s_free : Sl w eI 1 s_free_a s.free) (n_s_free : s.free.length ≤ 1000) : Calls Tryz.prog 48 (List.toArray [(Value.agg [(vs s_gens_a s.gens.length s_gens_c), (vs s_used_a s.used.length s_used_c), (vs s_free_a s.free.length s_free_c)].toArray)]) w fun e w2 => ∃ a1 : Option Addr, ∃ c1 : Nat, ∃ B : An, e = .returned (vs a1 ((Dz s).length) c1) ∧ Dj w w2 B ∧ Fl B Zc 2 a1 (Dz s) ∧ (Dz s).length ≤ 1000 := by
 have hF := Is.refl (Dz s);refine dR func48 ntmps48 (h := ?_);refine Z2 ?_;refine Aj Af Jq (k := fun r1 p4 => ?_);refine Un ?_;refine AS1 ?_;refine Zu ?_;refine Cx rfl (fun a9 => ?_) (fun a9 => ?_)
 ·refine Bp ?_;refine Qc ?_;refine Fa [] (List.Perm.refl _) results48 z1 (fun w1 hw1 => ?_);exact ⟨none, 0, [], (rq (hF.t a9)), (hw1.fresh_out.sub Gx), (rn (hF.t a9)), (rl (hF.t a9))⟩
 have hfhq1 := Ts pO;refine Nm ?_;refine Aj Af (Dt (l := [_]) zeroValue90) (k := fun r2 bv => ?_);refine Z0 ?_;refine pL ?_;refine Ah (Eb (cs := [_, _, _]) zeroValue131 rL) (k := ?_);refine Aj Af Jq (k := fun r3 iu => ?_);refine Ah kK (k := ?_);refine Lo ?_;refine Q8 ?_;refine Aj Af (Ko (l := [_])) (k := fun r4 jl => ?_);refine mU ?_;refine Z9 ?_;refine S3 ?_;refine Lw Af rfl call126 func126 ntmps126 (fun l5 rD5 rr5 hl5 => ?_);refine mY ?_;refine mX ?_;refine Z2 ?_;refine T3 ?_;refine A0 ?_;refine Rw ?_;refine Yh (σ1 := Nat) (σ2 := Nat) (σ3 := List Handle) (σ4 := Option Addr) (σ5 := Nat) (σ6 := An) (fun n_3 x_1 x_2 o8 o9 m6 => (m6 ++ ((l5, Dr rr5 .ready none) :: ((rD5, Obj.deferred (some [])) :: ((r4, oc [(Value.pointer (some ⟨r3, 0, none⟩))] 129) :: ((r3, oc [(vs s_gens_a s.gens.length s_gens_c), (vs s_used_a s.used.length s_used_c), (vs s_free_a s.free.length s_free_c)] 131) :: ((r2, oc [(vs o8 x_2.length o9)] 90) :: ((r1, oc [(vs s_gens_a s.gens.length s_gens_c), (vs s_used_a s.used.length s_used_c), (vs s_free_a s.free.length s_free_c)] 25) :: [])))))))) (fun n_3 x_1 x_2 o8 o9 m6 => [(0, (Value.func (.yield l5) [].toArray [].toArray)), (1, (Value.pointer (some ⟨r4, 0, none⟩))), (9, (vs s_used_a s.used.length s_used_c)), (10, (vi ((s.used.length : Nat) : Int))), (11, (vi ((x_1 : Nat) : Int)))]) (fun n_3 x_1 x_2 o8 o9 m6 => s.used.length - x_1 < n_3 ∧ Is (Hz s (s.used.length + 1) 0 []) (Hz s n_3 x_1 x_2) ∧ Bg Zc 2 42 o8 o9 m6 x_2 ∧ x_1 ≤ s.used.length ∧ x_2.length ≤ x_1) (fun n_3 x_1 x_2 o8 o9 m6 => n_3) (s.used.length + 1) 0 ([]) none 0 ([]) ?_ se (List.Perm.refl _) ?_
 ·exact ⟨Nat.lt_succ_self _, Is.refl _, Bg.nil, Na, Na⟩
 ·rintro (_ | n_3) x_1 x_2 o8 o9 m6 ⟨hm5, aa, cx, hi6, hi7⟩
  ·omega
  refine gZ ?_;refine Av rfl (fun b9 => ?_) (fun b9 => ?_);rotate_left
  ·refine Cz ?_;refine Sa ?_;refine Mg (.inr rfl) results126 (qc q0) ?_;refine Vw ?_;refine Z2 ?_;refine Ah (Ca isAgg90) (k := ?_);refine Z9 ?_;refine Fa [rD5] (qa (qc q0)) results48 z1 (fun w1 hw1 => ?_);exact ⟨o8, o9, m6, (rq ((hF.f a9).rn2 (aa.neg b9))), (Bd (L := m6) (hw1.perm (qb q0)) rfl.symm), (by rw [((hF.f a9).rn2 (aa.neg b9)).eq]; exact (cx.slb Jw)), (rl ((hF.f a9).rn2 (aa.neg b9)))⟩
  refine Qf ?_;refine Z5 ?_;refine Ah (Cj (n := s.used.length) runUnderlying23 sizeOf4 x_1 Sq (gD z3) Km) (k := ?_);refine Ah (Cb isAgg4 x_1 0 Sq (gD z3)) (k := ?_);refine Oo ?_;refine Wr ?_;refine Dq 17 rfl (fun c7 => ?_) (fun c7 => ?_);rotate_left
  ·refine Ag 13 rfl ?_;refine Rt ?_;refine bZ ?_;exact Ra n_3 (x_1 + 1) x_2 o8 o9 m6 ⟨by omega, ((aa.pos b9).f c7), cx, pI, pI⟩ (Nat.lt_succ_self _) se (List.Perm.refl _)
  refine T2 ?_;refine fQ ?_;refine zT ?_;refine Hw ?_;refine Ay (Cj (n := s.gens.length) runUnderlying22 sizeOf3 x_1 Sp (gD z3) Km) (k := ?_);refine Ay (Cb isAgg3 x_1 0 Sp (gD z3)) (k := ?_);refine A3 ?_;refine Et (vs := [(Value.agg [(vi ((x_1 : Nat) : Int)), (vi (s.gens.getD x_1 default))].toArray)]) hl5 (qc q0) Fo ?_;refine Ch ?_;refine Aj Af z67 (k := fun r6 ql => ?_);refine Gv (Bw (l' := [_, _]) sizeOf42) (k := ?_);refine Gz ?_;refine AR3 ?_;refine Ah (Ca isAgg90) (k := ?_);refine mZ ?_;refine Aj Af (Fk (l := [_, _]) runUnderlying90 sizeOf42 zeroValue42) (k := fun r7 xd => ?_);refine Ba (x_2 ++ ([(Handle.mk ((x_1 : Nat) : Int) (s.gens.getD x_1 default))] : List Handle)) rfl AD5 underlying90 Jw cx (qb (qb (qb q0))) (Bv.lit (xs := ([(Handle.mk ((x_1 : Nat) : Int) (s.gens.getD x_1 default))] : List Handle)) Jw) ⟨by omega, by omega⟩ (n := x_2.length) (m := 1) (k := fun ax1 cx1 bc m7 => ?_);have hal1 : (x_2 ++ ([(Handle.mk ((x_1 : Nat) : Int) (s.gens.getD x_1 default))] : List Handle)).length = x_2.length + 1 := by first | rfl | exact List.length_append | simp
  refine Gv (Bw (l' := [_]) sizeOf90) (k := ?_);refine Gz ?_;refine AR7 ?_;refine bZ ?_;refine Ce _ (((((((qa (qc (qa (qa (qa (qa (qa (qa q0)))))))).trans (qa (qa (qc (qa (qa (qa (qa (qa q0))))))))).trans (qa (qa (qa (qc (qa (qa (qa (qa q0))))))))).trans (qa (qa (qa (qa (qc (qa (qa (qa q0))))))))).trans (qa (qa (qa (qa (qa (qc (qa (qa q0))))))))).trans (qa (qa (qa (qa (qa q0)))))).trans (qb (qb (qb (qb (qb (qb q0))))))) ?_;refine Bo _ (List.Sublist.append Mc (List.Sublist.cons_cons _ (List.Sublist.cons_cons _ (List.Sublist.cons_cons _ (List.Sublist.cons_cons _ (List.Sublist.cons_cons _ (List.Sublist.cons_cons _ Gx))))))) ?_;exact Ra n_3 (x_1 + 1) (x_2 ++ ([(Handle.mk ((x_1 : Nat) : Int) (s.gens.getD x_1 default))] : List Handle)) ax1 cx1 bc ⟨by omega, ((aa.pos b9).t c7), m7, pI, pI⟩ (Nat.lt_succ_self _) se (List.Perm.refl _)

theorem xC (w : World) {s_gens_a : Option Addr} {s_gens_c : Nat} {s_used_a : Option Addr} {s_used_c : Nat} {s_free_a : Option Addr} {s_free_c : Nat} {s : Slots} {h : Handle} (h_s_gens : Sl w eI 1 s_gens_a s.gens) (n_s_gens : s.gens.length ≤ 1000) (h_s_used : Sl w eB 1 s_used_a s.used) (n_s_used : s.used.length ≤ 1000) (h_s_free : Sl w eI 1 s_free_a s.free) (n_s_free : s.free.length ≤ 1000) : Jc Tryz.prog 21 [(Value.agg [(vs s_gens_a s.gens.length s_gens_c), (vs s_used_a s.used.length s_used_c), (vs s_free_a s.free.length s_free_c)].toArray), (Value.agg [(vi h.slot), (vi h.gen)].toArray)] w (Value.bool (Tk s h)) := by
 have hF := Is.refl (Tk s h);refine enter func21 ntmps21 (h := ?_);refine Z2 ?_;refine Aj Af Jq (k := fun r1 p4 => ?_);refine Aj Af pN (k := fun r2 bv => ?_);refine Un ?_;refine pL ?_;refine Hd (Ai call48) (fun w1 hw1 => tS w1 (s := s) (h_s_gens := (Bv.of_base h_s_gens) w1 hw1) (n_s_gens := z7) (h_s_used := (Bv.of_base h_s_used) w1 hw1) (n_s_used := z7) (h_s_free := (Bv.of_base h_s_free) w1 hw1) (n_s_free := z7)) (k := ?_);rintro cy cr cz l9 ⟨i5, d6, m1, p9, y6, c6, fx⟩;refine ⟨_, _, p9, l9.fresh y6, ?_⟩;refine Ah (Fv runUnderlying90) (k := ?_);refine Rw ?_;refine Fi (σ1 := Nat) (σ2 := Nat) (fun n_2 x_1 => (m1 ++ ((r2, oc [(vi h.slot), (vi h.gen)] 42) :: ((r1, oc [(vs s_gens_a s.gens.length s_gens_c), (vs s_used_a s.used.length s_used_c), (vs s_free_a s.free.length s_free_c)] 25) :: [])))) (fun n_2 x_1 => [(3, (Value.pointer (some ⟨r2, 0, none⟩))), (4, (Value.bool false)), (8, (vs i5 ((Dz s).length) d6)), (9, (vi ((((Dz s).length) : Nat) : Int))), (10, (vi ((x_1 : Nat) : Int)))]) (fun n_2 x_1 => ((Dz s).length) - x_1 < n_2 ∧ Is (Hu s h (((Dz s).length) + 1) 0) (Hu s h n_2 x_1)) (fun n_2 x_1 => n_2) (((Dz s).length) + 1) 0 ?_ se (List.Perm.refl _) ?_
 ·exact ⟨Nat.lt_succ_self _, Is.refl _⟩
 ·rintro (_ | n_2) x_1 ⟨hm4, j4⟩
  ·omega
  refine gZ ?_;refine Av rfl (fun a9 => ?_) (fun a9 => ?_);rotate_left
  ·refine Cz ?_;refine Qd ?_;refine Ad results21 z1 (fun w1 hw1 => ?_);exact ⟨(rq (hF.ok1 (j4.neg a9))), hw1.ext_out⟩
  refine gA ?_;refine Ah (Cj (n := (Dz s).length) runUnderlying90 sizeOf42 x_1 (Fl.slj c6) (gD z3) Km) (k := ?_);refine Ah (Du isAgg42 sizeOf42 x_1 (Fl.slj c6) (gD z3)) (k := ?_);refine Aj Af z67 (k := fun r3 iu => ?_);refine Gv (Bw (l' := [_, _]) sizeOf42) (k := ?_);refine Pl ?_;refine mZ ?_;refine mZ ?_;refine Ah (nK (AD3 _ _ _ _ _ _)) (k := ?_);refine Z0 ?_;refine Av rfl (fun b9 => ?_) (fun b9 => ?_);rotate_left
  ·refine Bt ?_;refine dD ?_;refine Ce _ (((qa (qc (qa q0))).trans (qa (qa (qc q0)))).trans (qb (qb (qb q0)))) ?_;refine Bo _ (List.Sublist.append Mc (List.Sublist.cons_cons _ (List.Sublist.cons_cons _ Gx))) ?_;exact Ez n_2 (x_1 + 1) ⟨by omega, ((j4.pos a9).neg b9)⟩ (Nat.lt_succ_self _) se (List.Perm.refl _)
  refine dE ?_;refine Ad results21 z1 (fun w1 hw1 => ?_);exact ⟨(rq (hF.er1 ((j4.pos a9).pos b9))), hw1.ext_out⟩

theorem I0 (w : World) {s_gens_a : Option Addr} {s_gens_c : Nat} {s_used_a : Option Addr} {s_used_c : Nat} {s_free_a : Option Addr} {s_free_c : Nat} {s : Slots} (h_s_gens : Sl w eI 1 s_gens_a s.gens) (n_s_gens : s.gens.length ≤ 1000) (h_s_used : Sl w eB 1 s_used_a s.used) (n_s_used : s.used.length ≤ 1000) (h_s_free : Sl w eI 1 s_free_a s.free) (n_s_free : s.free.length ≤ 1000) : Calls Tryz.prog 110 (List.toArray [(Value.agg [(vs s_gens_a s.gens.length s_gens_c), (vs s_used_a s.used.length s_used_c), (vs s_free_a s.free.length s_free_c)].toArray)]) w fun e w2 => ∃ a1 : Option Addr, ∃ c1 : Nat, ∃ a2 : Option Addr, ∃ c2 : Nat, ∃ a3 : Option Addr, ∃ c3 : Nat, ∃ B : An, e = .returned (Value.tuple [(Value.agg [(vs a1 ((Cl s).1.gens.length) c1), (vs a2 ((Cl s).1.used.length) c2), (vs a3 ((Cl s).1.free.length) c3)].toArray), (Value.agg [(vi ((Cl s).2.1.slot)), (vi ((Cl s).2.1.gen))].toArray), (vi ((Cl s).2.2))].toArray) ∧ Dj w w2 B ∧ Fl B eI 1 a1 (Cl s).1.gens ∧ Fl B eB 1 a2 (Cl s).1.used ∧ Fl B eI 1 a3 (Cl s).1.free ∧ (Cl s).1.gens.length ≤ 1000 ∧ (Cl s).1.used.length ≤ 1000 ∧ (Cl s).1.free.length ≤ 1000 := by
 have hF := Is.refl (Cl s);refine enter func110 ntmps110 (h := ?_);refine Z2 ?_;refine Aj Af Jq (k := fun r1 p4 => ?_);refine Aj Af jN (k := fun r2 bv => ?_);refine Aj Af z67 (k := fun r3 iu => ?_);refine Un ?_;refine AS1 ?_;refine Zu ?_;refine Cx rfl (fun a9 => ?_) (fun a9 => ?_)
 ·refine Bp ?_;refine Ch ?_;refine gB ?_;refine Ad results110 (Dd.agg isAgg25 sizeOf25 rfl me rfl (Dd.agg isAgg42 sizeOf42 rfl me rfl z1)) (fun w1 hw1 => ?_);exact ⟨none, 0, none, 0, none, 0, [], (rq (hF.t a9)), (hw1.fresh_out.sub Gx), (rn (hF.t a9)), (rn (hF.t a9)), (rn (hF.t a9)), (rl (hF.t a9)), (rl (hF.t a9)), (rl (hF.t a9))⟩
 have hfhq1 := Ts pO;refine Xv ?_;refine pL ?_;refine Ej (args := [_]) (Ai call140) func140 ntmps140 ?_;refine Z2 ?_;refine Aj Af Jq (k := fun r4 jl => ?_);refine Un ?_;refine Vy (V := []) Cy 14 z5 ?_;refine Dn 0 rfl z5 (Al Ll) (k := ?_);refine Dn 1 rfl z5 lR (k := ?_);refine Dn 2 rfl z5 N8 (k := ?_);refine Dn 4 rfl z5 (Al Rh) (k := ?_);refine Dn 5 rfl z5 (Ca isAgg23) (k := ?_);refine Dn 7 rfl z5 (Al Jn) (k := ?_);refine Dn 8 rfl z5 lR (k := ?_);refine Bl [3, 6] z5 rfl (List.forall_mem_cons.2 ⟨?_, (List.forall_mem_cons.2 ⟨?_, nofun⟩)⟩)
 ·skip;refine Qm rfl (n := s.gens.length) (x0 := default) Dp underlying22 Bb rfl ⟨by omega, by omega⟩ (k := fun ax81 k8 i4 => ?_);refine Bl [6] z5 rfl (List.forall_mem_cons.2 ⟨?_, nofun⟩)
  ·skip;refine T5 ?_;rintro ku ju kv gz ⟨av, ay, jo, ci, cj, q8⟩;refine ⟨_, _, _, ci, cj, rfl, ?_⟩;refine Bl [9] z5 rfl (List.forall_mem_cons.2 ⟨?_, nofun⟩)
   ·skip;refine vY ?_;rintro fb ei fc cv ⟨bh, eh, ab, ag, ah, j9⟩;refine ⟨_, _, _, ag, ah, rfl, ?_⟩;refine uW ?_;refine Bl [12] z5 rfl (List.forall_mem_cons.2 ⟨?_, nofun⟩)
    ·skip;refine Fw rfl Af Jq (k := fun po ir => ?_);refine vR ?_;refine Jl ?_;refine uV ?_;refine fY ?_;refine zH ?_;refine Uq (n := s.gens.length) Dp underlying22 Bb i4 q0 Sp Gu rfl (kk := fun bg o7 => ?_);refine Zy ?_;refine Om ?_;refine vJ ?_;refine Lp ?_;refine jO ?_;refine jT ?_;refine dH ?_;refine Un ?_;refine Fj ?_;refine AF2 ?_;refine mN ?_;refine Fh 24 rfl (fun b9 => ?_) (fun b9 => ?_)
     ·refine Bn 16 rfl ?_;refine kB ?_;refine gB ?_;refine Ad results110 (Dd.agg isAgg25 sizeOf25 rfl me rfl (Dd.agg isAgg42 sizeOf42 rfl me rfl z1)) (fun w1 hw1 => ?_);exact ⟨none, 0, none, 0, none, 0, [], (rq ((hF.f a9).pos b9)), (hw1.fresh_out.sub Gx), (rn ((hF.f a9).pos b9)), (rn ((hF.f a9).pos b9)), (rn ((hF.f a9).pos b9)), (rl ((hF.f a9).pos b9)), (rl ((hF.f a9).pos b9)), (rl ((hF.f a9).pos b9))⟩
     refine vQ ?_;refine Bm (Al Ll) (k := ?_);refine O9 ?_;refine P1 ?_;refine vO ?_;refine AE9 ?_;refine AE5 ?_;refine Bm Gy (k := ?_);refine Vk ?_;refine Av rfl (fun c7 => ?_) (fun c7 => ?_)
     ·refine Bp ?_;refine Ch ?_;refine gB ?_;refine Ad results110 (Dd.agg isAgg25 sizeOf25 rfl me rfl (Dd.agg isAgg42 sizeOf42 rfl me rfl z1)) (fun w1 hw1 => ?_);exact ⟨none, 0, none, 0, none, 0, [], (rq (((hF.f a9).neg b9).pos c7)), (hw1.fresh_out.sub Gx), (rn (((hF.f a9).neg b9).pos c7)), (rn (((hF.f a9).neg b9).pos c7)), (rn (((hF.f a9).neg b9).pos c7)), (rl (((hF.f a9).neg b9).pos c7)), (rl (((hF.f a9).neg b9).pos c7)), (rl (((hF.f a9).neg b9).pos c7))⟩
     refine Xv ?_;refine Z5 ?_;refine jO ?_;refine vW ?_;refine AF0 ?_;refine Wr ?_;refine jO ?_;refine Z86 ?_;refine pQ ?_;have hl4 : (s.free.take ((((s.free.length : Nat) : Int) - 1).toNat)).length = (((s.free.length : Nat) : Int) - 1).toNat := by rw [List.length_take]; omega
     have hl4c := j9.le';refine AF5 ?_;refine vC ?_;refine kC ?_;refine lV ?_;refine AF3 ?_;refine Gq ((s.free.getD ((((s.free.length : Nat) : Int) - 1).toNat) default).toNat) true sizeOf4 Ds q8 (qd (qd q0)) yZ (k := fun Bs301 hos301 => ?_);refine kC ?_;refine qH ?_;refine AE6 ?_;refine AF4 ?_;refine Gq ((s.free.getD ((((s.free.length : Nat) : Int) - 1).toNat) default).toNat) ((s.gens.getD ((s.free.getD ((((s.free.length : Nat) : Int) - 1).toNat) default).toNat) default) + 1) sizeOf3 Bb o7 (qd q0) yZ (k := fun Bs302 hos302 => ?_);refine Jl ?_;refine AE8 ?_;refine uT ?_;refine A4 ?_;refine Zv ?_;refine fY ?_;refine Gg ?_;refine AE7 ?_;refine Q9 ?_;refine Sd ?_;refine Ad results110 (Dd.agg isAgg25 sizeOf25 rfl me rfl (Dd.agg isAgg42 sizeOf42 rfl me rfl z1)) (fun w1 hw1 => ?_);exact ⟨ax81, s.gens.length, av, ay, bh, ((((s.free.length : Nat) : Int) - 1).toNat), (Bs302 ++ (Bs301 ++ ab)), (rq (((hF.f a9).neg b9).neg c7)), (Bd (L := (Bs302 ++ (Bs301 ++ ab))) (hw1.perm (((qb (qb (qd (qd q0)))).trans (qd (qb (qb (qd q0))))).trans (qd (qd (qb (qb q0)))))) (nA (nA rfl)).symm), (by rw [(((hF.f a9).neg b9).neg c7).eq]; exact (hos302.slb Bb)), (by rw [(((hF.f a9).neg b9).neg c7).eq]; exact (hos301.slb Ds)), (by rw [(((hF.f a9).neg b9).neg c7).eq]; exact ((j9.take Bb ((((s.free.length : Nat) : Int) - 1).toNat)).slb Bb)), (rl (((hF.f a9).neg b9).neg c7)), (rl (((hF.f a9).neg b9).neg c7)), (rl (((hF.f a9).neg b9).neg c7))⟩
 ·skip;refine T5 ?_;rintro ku ju kv gz ⟨av, ay, jo, ci, cj, q8⟩;refine ⟨_, _, _, ci, cj, rfl, ?_⟩;refine Bl [3, 9] z5 rfl (List.forall_mem_cons.2 ⟨?_, (List.forall_mem_cons.2 ⟨?_, nofun⟩)⟩)
  ·skip;refine Qm rfl (n := s.gens.length) (x0 := default) Dp underlying22 Bb rfl ⟨by omega, by omega⟩ (k := fun ax81 k8 i4 => ?_);refine Bl [9] z5 rfl (List.forall_mem_cons.2 ⟨?_, nofun⟩)
   ·skip;refine vY ?_;rintro fb ei fc cv ⟨bh, eh, ab, ag, ah, j9⟩;refine ⟨_, _, _, ag, ah, rfl, ?_⟩;refine uW ?_;refine Bl [12] z5 rfl (List.forall_mem_cons.2 ⟨?_, nofun⟩)
    ·skip;refine Fw rfl Af Jq (k := fun po ir => ?_);refine vR ?_;refine Jl ?_;refine uV ?_;refine fY ?_;refine zH ?_;refine Uq (n := s.gens.length) Dp underlying22 Bb i4 q0 Sp Gu rfl (kk := fun bg o7 => ?_);refine Zy ?_;refine Om ?_;refine vJ ?_;refine Lp ?_;refine jO ?_;refine jT ?_;refine dH ?_;refine Un ?_;refine Fj ?_;refine AF2 ?_;refine mN ?_;refine Fh 24 rfl (fun d5 => ?_) (fun d5 => ?_)
     ·refine Bn 16 rfl ?_;refine kB ?_;refine gB ?_;refine Ad results110 (Dd.agg isAgg25 sizeOf25 rfl me rfl (Dd.agg isAgg42 sizeOf42 rfl me rfl z1)) (fun w1 hw1 => ?_);exact ⟨none, 0, none, 0, none, 0, [], (rq ((hF.f a9).pos d5)), (hw1.fresh_out.sub Gx), (rn ((hF.f a9).pos d5)), (rn ((hF.f a9).pos d5)), (rn ((hF.f a9).pos d5)), (rl ((hF.f a9).pos d5)), (rl ((hF.f a9).pos d5)), (rl ((hF.f a9).pos d5))⟩
     refine vQ ?_;refine Bm (Al Ll) (k := ?_);refine O9 ?_;refine P1 ?_;refine vO ?_;refine AE9 ?_;refine AE5 ?_;refine Bm Gy (k := ?_);refine Vk ?_;refine Av rfl (fun d8 => ?_) (fun d8 => ?_)
     ·refine Bp ?_;refine Ch ?_;refine gB ?_;refine Ad results110 (Dd.agg isAgg25 sizeOf25 rfl me rfl (Dd.agg isAgg42 sizeOf42 rfl me rfl z1)) (fun w1 hw1 => ?_);exact ⟨none, 0, none, 0, none, 0, [], (rq (((hF.f a9).neg d5).pos d8)), (hw1.fresh_out.sub Gx), (rn (((hF.f a9).neg d5).pos d8)), (rn (((hF.f a9).neg d5).pos d8)), (rn (((hF.f a9).neg d5).pos d8)), (rl (((hF.f a9).neg d5).pos d8)), (rl (((hF.f a9).neg d5).pos d8)), (rl (((hF.f a9).neg d5).pos d8))⟩
     refine Xv ?_;refine Z5 ?_;refine jO ?_;refine vW ?_;refine AF0 ?_;refine Wr ?_;refine jO ?_;refine Z86 ?_;refine pQ ?_;have hl7 : (s.free.take ((((s.free.length : Nat) : Int) - 1).toNat)).length = (((s.free.length : Nat) : Int) - 1).toNat := by rw [List.length_take]; omega
     have hl7c := j9.le';refine AF5 ?_;refine vC ?_;refine kC ?_;refine lV ?_;refine AF3 ?_;refine Gq ((s.free.getD ((((s.free.length : Nat) : Int) - 1).toNat) default).toNat) true sizeOf4 Ds q8 (qd (qd q0)) yZ (k := fun Bs301 hos301 => ?_);refine kC ?_;refine qH ?_;refine AE6 ?_;refine AF4 ?_;refine Gq ((s.free.getD ((((s.free.length : Nat) : Int) - 1).toNat) default).toNat) ((s.gens.getD ((s.free.getD ((((s.free.length : Nat) : Int) - 1).toNat) default).toNat) default) + 1) sizeOf3 Bb o7 (qd q0) yZ (k := fun Bs302 hos302 => ?_);refine Jl ?_;refine AE8 ?_;refine uT ?_;refine A4 ?_;refine Zv ?_;refine fY ?_;refine Gg ?_;refine AE7 ?_;refine Q9 ?_;refine Sd ?_;refine Ad results110 (Dd.agg isAgg25 sizeOf25 rfl me rfl (Dd.agg isAgg42 sizeOf42 rfl me rfl z1)) (fun w1 hw1 => ?_);exact ⟨ax81, s.gens.length, av, ay, bh, ((((s.free.length : Nat) : Int) - 1).toNat), (Bs302 ++ (Bs301 ++ ab)), (rq (((hF.f a9).neg d5).neg d8)), (Bd (L := (Bs302 ++ (Bs301 ++ ab))) (hw1.perm (((qb (qb (qd (qd q0)))).trans (qd (qb (qb (qd q0))))).trans (qd (qd (qb (qb q0)))))) (nA (nA rfl)).symm), (by rw [(((hF.f a9).neg d5).neg d8).eq]; exact (hos302.slb Bb)), (by rw [(((hF.f a9).neg d5).neg d8).eq]; exact (hos301.slb Ds)), (by rw [(((hF.f a9).neg d5).neg d8).eq]; exact ((j9.take Bb ((((s.free.length : Nat) : Int) - 1).toNat)).slb Bb)), (rl (((hF.f a9).neg d5).neg d8)), (rl (((hF.f a9).neg d5).neg d8)), (rl (((hF.f a9).neg d5).neg d8))⟩
  ·skip;refine vY ?_;rintro fb ei fc cv ⟨bh, eh, ab, ag, ah, j9⟩;refine ⟨_, _, _, ag, ah, rfl, ?_⟩;refine Bl [3] z5 rfl (List.forall_mem_cons.2 ⟨?_, nofun⟩)
   ·skip;refine Qm rfl (n := s.gens.length) (x0 := default) Dp underlying22 Bb rfl ⟨by omega, by omega⟩ (k := fun ax81 k8 i4 => ?_);refine uW ?_;refine Bl [12] z5 rfl (List.forall_mem_cons.2 ⟨?_, nofun⟩)
    ·skip;refine Fw rfl Af Jq (k := fun po ir => ?_);refine vR ?_;refine Jl ?_;refine uV ?_;refine fY ?_;refine zH ?_;refine Uq (n := s.gens.length) Dp underlying22 Bb i4 q0 Sp Gu rfl (kk := fun bg o7 => ?_);refine Zy ?_;refine Om ?_;refine vJ ?_;refine Lp ?_;refine jO ?_;refine jT ?_;refine dH ?_;refine Un ?_;refine Fj ?_;refine AF2 ?_;refine mN ?_;refine Fh 24 rfl (fun i7 => ?_) (fun i7 => ?_)
     ·refine Bn 16 rfl ?_;refine kB ?_;refine gB ?_;refine Ad results110 (Dd.agg isAgg25 sizeOf25 rfl me rfl (Dd.agg isAgg42 sizeOf42 rfl me rfl z1)) (fun w1 hw1 => ?_);exact ⟨none, 0, none, 0, none, 0, [], (rq ((hF.f a9).pos i7)), (hw1.fresh_out.sub Gx), (rn ((hF.f a9).pos i7)), (rn ((hF.f a9).pos i7)), (rn ((hF.f a9).pos i7)), (rl ((hF.f a9).pos i7)), (rl ((hF.f a9).pos i7)), (rl ((hF.f a9).pos i7))⟩
     refine vQ ?_;refine Bm (Al Ll) (k := ?_);refine O9 ?_;refine P1 ?_;refine vO ?_;refine AE9 ?_;refine AE5 ?_;refine Bm Gy (k := ?_);refine Vk ?_;refine Av rfl (fun j0 => ?_) (fun j0 => ?_)
     ·refine Bp ?_;refine Ch ?_;refine gB ?_;refine Ad results110 (Dd.agg isAgg25 sizeOf25 rfl me rfl (Dd.agg isAgg42 sizeOf42 rfl me rfl z1)) (fun w1 hw1 => ?_);exact ⟨none, 0, none, 0, none, 0, [], (rq (((hF.f a9).neg i7).pos j0)), (hw1.fresh_out.sub Gx), (rn (((hF.f a9).neg i7).pos j0)), (rn (((hF.f a9).neg i7).pos j0)), (rn (((hF.f a9).neg i7).pos j0)), (rl (((hF.f a9).neg i7).pos j0)), (rl (((hF.f a9).neg i7).pos j0)), (rl (((hF.f a9).neg i7).pos j0))⟩
     refine Xv ?_;refine Z5 ?_;refine jO ?_;refine vW ?_;refine AF0 ?_;refine Wr ?_;refine jO ?_;refine Z86 ?_;refine pQ ?_;have hl10 : (s.free.take ((((s.free.length : Nat) : Int) - 1).toNat)).length = (((s.free.length : Nat) : Int) - 1).toNat := by rw [List.length_take]; omega
     have hl10c := j9.le';refine AF5 ?_;refine vC ?_;refine kC ?_;refine lV ?_;refine AF3 ?_;refine Gq ((s.free.getD ((((s.free.length : Nat) : Int) - 1).toNat) default).toNat) true sizeOf4 Ds q8 (qd (qd q0)) yZ (k := fun Bs301 hos301 => ?_);refine kC ?_;refine qH ?_;refine AE6 ?_;refine AF4 ?_;refine Gq ((s.free.getD ((((s.free.length : Nat) : Int) - 1).toNat) default).toNat) ((s.gens.getD ((s.free.getD ((((s.free.length : Nat) : Int) - 1).toNat) default).toNat) default) + 1) sizeOf3 Bb o7 (qd q0) yZ (k := fun Bs302 hos302 => ?_);refine Jl ?_;refine AE8 ?_;refine uT ?_;refine A4 ?_;refine Zv ?_;refine fY ?_;refine Gg ?_;refine AE7 ?_;refine Q9 ?_;refine Sd ?_;refine Ad results110 (Dd.agg isAgg25 sizeOf25 rfl me rfl (Dd.agg isAgg42 sizeOf42 rfl me rfl z1)) (fun w1 hw1 => ?_);exact ⟨ax81, s.gens.length, av, ay, bh, ((((s.free.length : Nat) : Int) - 1).toNat), (Bs302 ++ (Bs301 ++ ab)), (rq (((hF.f a9).neg i7).neg j0)), (Bd (L := (Bs302 ++ (Bs301 ++ ab))) (hw1.perm (((qb (qb (qd (qd q0)))).trans (qd (qb (qb (qd q0))))).trans (qd (qd (qb (qb q0)))))) (nA (nA rfl)).symm), (by rw [(((hF.f a9).neg i7).neg j0).eq]; exact (hos302.slb Bb)), (by rw [(((hF.f a9).neg i7).neg j0).eq]; exact (hos301.slb Ds)), (by rw [(((hF.f a9).neg i7).neg j0).eq]; exact ((j9.take Bb ((((s.free.length : Nat) : Int) - 1).toNat)).slb Bb)), (rl (((hF.f a9).neg i7).neg j0)), (rl (((hF.f a9).neg i7).neg j0)), (rl (((hF.f a9).neg i7).neg j0))⟩

theorem I1 (w : World) {s_gens_a : Option Addr} {s_gens_c : Nat} {s_used_a : Option Addr} {s_used_c : Nat} {s_free_a : Option Addr} {s_free_c : Nat} {s : Slots} {h : Handle} (h_s_gens : Sl w eI 1 s_gens_a s.gens) (n_s_gens : s.gens.length ≤ 1000) (h_s_used : Sl w eB 1 s_used_a s.used) (n_s_used : s.used.length ≤ 1000) (h_s_free : Sl w eI 1 s_free_a s.free) (n_s_free : s.free.length ≤ 1000) : Calls Tryz.prog 113 (List.toArray [(Value.agg [(vs s_gens_a s.gens.length s_gens_c), (vs s_used_a s.used.length s_used_c), (vs s_free_a s.free.length s_free_c)].toArray), (Value.agg [(vi h.slot), (vi h.gen)].toArray)]) w fun e w2 => ∃ a1 : Option Addr, ∃ c1 : Nat, ∃ a2 : Option Addr, ∃ c2 : Nat, ∃ a3 : Option Addr, ∃ c3 : Nat, ∃ B : An, e = .returned (Value.tuple [(Value.agg [(vs a1 ((Gb s h).1.gens.length) c1), (vs a2 ((Gb s h).1.used.length) c2), (vs a3 ((Gb s h).1.free.length) c3)].toArray), (vi ((Gb s h).2))].toArray) ∧ Dj w w2 B ∧ Fl B eI 1 a1 (Gb s h).1.gens ∧ Fl B eB 1 a2 (Gb s h).1.used ∧ Fl B eI 1 a3 (Gb s h).1.free ∧ (Gb s h).1.gens.length ≤ 1000 ∧ (Gb s h).1.used.length ≤ 1000 ∧ (Gb s h).1.free.length ≤ 1000 := by
 have hF := Is.refl (Gb s h);refine enter func113 ntmps113 (h := ?_);refine Z2 ?_;refine Aj Af Jq (k := fun r1 p4 => ?_);refine Aj Af pN (k := fun r2 bv => ?_);refine Aj Af jN (k := fun r3 iu => ?_);refine Z1 ?_;refine Z63 ?_;refine vZ ?_;refine AV0 ?_;refine bX ?_;refine Cx rfl (fun a9 => ?_) (fun a9 => ?_)
 ·refine Bp ?_;refine Ch ?_;refine uZ ?_;refine Sr ?_;refine Ad results113 (Dd.agg isAgg25 sizeOf25 rfl me rfl z1) (fun w1 hw1 => ?_);exact ⟨none, 0, none, 0, none, 0, [], (rq (hF.t a9)), (hw1.fresh_out.sub Gx), (rn (hF.t a9)), (rn (hF.t a9)), (rn (hF.t a9)), (rl (hF.t a9)), (rl (hF.t a9)), (rl (hF.t a9))⟩
 have hfhq1 := Ts pO;refine pL ?_;refine mZ ?_;refine Fu (Ai call21) (fun w1 hw1 => xC w1 (s := s) (h := h) (h_s_gens := (Bv.of_base h_s_gens) w1 hw1) (n_s_gens := z7) (h_s_used := (Bv.of_base h_s_used) w1 hw1) (n_s_used := z7) (h_s_free := (Bv.of_base h_s_free) w1 hw1) (n_s_free := z7)) (k := ?_);refine bX ?_;refine Cx rfl (fun b9 => ?_) (fun b9 => ?_)
 ·refine Bp ?_;refine Ch ?_;refine uZ ?_;refine Sr ?_;refine Ad results113 (Dd.agg isAgg25 sizeOf25 rfl me rfl z1) (fun w1 hw1 => ?_);exact ⟨none, 0, none, 0, none, 0, [], (rq ((hF.f a9).t b9)), (hw1.fresh_out.sub Gx), (rn ((hF.f a9).t b9)), (rn ((hF.f a9).t b9)), (rn ((hF.f a9).t b9)), (rl ((hF.f a9).t b9)), (rl ((hF.f a9).t b9)), (rl ((hF.f a9).t b9))⟩
 have hfhq2 := H9 (by simpa using b9);refine Bt ?_;refine Vw ?_;refine pL ?_;refine Ej (args := [_]) (Ai call140) func140 ntmps140 ?_;refine Z2 ?_;refine Aj Af Jq (k := fun r4 jl => ?_);refine Un ?_;refine Vy (V := []) Cy 14 z5 ?_;refine Dn 0 rfl z5 (Al Ll) (k := ?_);refine Dn 1 rfl z5 lR (k := ?_);refine Dn 2 rfl z5 N8 (k := ?_);refine Dn 4 rfl z5 (Al Rh) (k := ?_);refine Dn 5 rfl z5 (Ca isAgg23) (k := ?_);refine Dn 7 rfl z5 (Al Jn) (k := ?_);refine Dn 8 rfl z5 lR (k := ?_);refine Bl [3, 6] z5 rfl (List.forall_mem_cons.2 ⟨?_, (List.forall_mem_cons.2 ⟨?_, nofun⟩)⟩)
 ·skip;refine Qm rfl (n := s.gens.length) (x0 := default) Dp underlying22 Bb rfl ⟨by omega, by omega⟩ (k := fun ax81 k8 i4 => ?_);refine Bl [6] z5 rfl (List.forall_mem_cons.2 ⟨?_, nofun⟩)
  ·skip;refine T5 ?_;rintro ku ju kv gz ⟨av, ay, jo, ci, cj, q8⟩;refine ⟨_, _, _, ci, cj, rfl, ?_⟩;refine Bl [9] z5 rfl (List.forall_mem_cons.2 ⟨?_, nofun⟩)
   ·skip;refine vY ?_;rintro fb ei fc cv ⟨bh, eh, ab, ag, ah, j9⟩;refine ⟨_, _, _, ag, ah, rfl, ?_⟩;refine uW ?_;refine Bl [12] z5 rfl (List.forall_mem_cons.2 ⟨?_, nofun⟩)
    ·skip;refine Fw rfl Af Jq (k := fun po ir => ?_);refine vR ?_;refine Jl ?_;refine uV ?_;refine fY ?_;refine zH ?_;refine Uq (n := s.gens.length) Dp underlying22 Bb i4 q0 Sp Gu rfl (kk := fun bg o7 => ?_);refine Zy ?_;refine Om ?_;refine vJ ?_;refine Un ?_;refine AG3 ?_;refine uT ?_;refine mJ ?_;refine Be (Al Jo) (k := ?_);refine AG0 ?_;refine Gs ?_;refine Gq h.slot.toNat false sizeOf4 Ds q8 (qd (qd q0)) yZ (k := fun Bs301 hos301 => ?_);refine AF6 ?_;refine Zv ?_;refine uT ?_;refine jQ ?_;refine Be (Al Jo) (k := ?_);refine Qx ?_;refine Sy Af Zt (k := fun a71 ua => ?_);refine Kb (s.free ++ ([h.slot] : List Int)) rfl Dp underlying22 Bb j9 q0 (Bv.lit (xs := ([h.slot] : List Int)) Bb) ⟨by omega, by omega⟩ (n := s.free.length) (m := 1) (k := fun ax304 cx304 dk eu => ?_);have hal304 : (s.free ++ ([h.slot] : List Int)).length = s.free.length + 1 := by first | rfl | exact List.length_append | simp
     refine uT ?_;refine Be (Al Jn) (k := ?_);refine Zy ?_;refine T6 ?_;refine kC ?_;refine P5 ?_;refine Z9 ?_;refine Ad results113 (Dd.agg isAgg25 sizeOf25 rfl me rfl z1) (fun w1 hw1 => ?_);exact ⟨ax81, s.gens.length, av, ay, ax304, cx304, (bg ++ (Bs301 ++ dk)), (rq ((hF.f a9).f b9)), (Bd (L := (bg ++ (Bs301 ++ dk))) (hw1.perm ((q0.trans (qd (qb q0))).trans (qd (qd (qb q0))))) (nA (nA rfl)).symm), (by rw [((hF.f a9).f b9).eq]; exact (o7.slb Bb)), (by rw [((hF.f a9).f b9).eq]; exact (hos301.slb Ds)), (by rw [((hF.f a9).f b9).eq]; exact (eu.slb Bb)), (rl ((hF.f a9).f b9)), (rl ((hF.f a9).f b9)), (rl ((hF.f a9).f b9))⟩
 ·skip;refine T5 ?_;rintro ku ju kv gz ⟨av, ay, jo, ci, cj, q8⟩;refine ⟨_, _, _, ci, cj, rfl, ?_⟩;refine Bl [3, 9] z5 rfl (List.forall_mem_cons.2 ⟨?_, (List.forall_mem_cons.2 ⟨?_, nofun⟩)⟩)
  ·skip;refine Qm rfl (n := s.gens.length) (x0 := default) Dp underlying22 Bb rfl ⟨by omega, by omega⟩ (k := fun ax81 k8 i4 => ?_);refine Bl [9] z5 rfl (List.forall_mem_cons.2 ⟨?_, nofun⟩)
   ·skip;refine vY ?_;rintro fb ei fc cv ⟨bh, eh, ab, ag, ah, j9⟩;refine ⟨_, _, _, ag, ah, rfl, ?_⟩;refine uW ?_;refine Bl [12] z5 rfl (List.forall_mem_cons.2 ⟨?_, nofun⟩)
    ·skip;refine Fw rfl Af Jq (k := fun po ir => ?_);refine vR ?_;refine Jl ?_;refine uV ?_;refine fY ?_;refine zH ?_;refine Uq (n := s.gens.length) Dp underlying22 Bb i4 q0 Sp Gu rfl (kk := fun bg o7 => ?_);refine Zy ?_;refine Om ?_;refine vJ ?_;refine Un ?_;refine AG3 ?_;refine uT ?_;refine mJ ?_;refine Be (Al Jo) (k := ?_);refine AG0 ?_;refine Gs ?_;refine Gq h.slot.toNat false sizeOf4 Ds q8 (qd (qd q0)) yZ (k := fun Bs301 hos301 => ?_);refine AF6 ?_;refine Zv ?_;refine uT ?_;refine jQ ?_;refine Be (Al Jo) (k := ?_);refine Qx ?_;refine Sy Af Zt (k := fun a71 ua => ?_);refine Kb (s.free ++ ([h.slot] : List Int)) rfl Dp underlying22 Bb j9 q0 (Bv.lit (xs := ([h.slot] : List Int)) Bb) ⟨by omega, by omega⟩ (n := s.free.length) (m := 1) (k := fun ax304 cx304 dk eu => ?_);have hal304 : (s.free ++ ([h.slot] : List Int)).length = s.free.length + 1 := by first | rfl | exact List.length_append | simp
     refine uT ?_;refine Be (Al Jn) (k := ?_);refine Zy ?_;refine T6 ?_;refine kC ?_;refine P5 ?_;refine Z9 ?_;refine Ad results113 (Dd.agg isAgg25 sizeOf25 rfl me rfl z1) (fun w1 hw1 => ?_);exact ⟨ax81, s.gens.length, av, ay, ax304, cx304, (bg ++ (Bs301 ++ dk)), (rq ((hF.f a9).f b9)), (Bd (L := (bg ++ (Bs301 ++ dk))) (hw1.perm ((q0.trans (qd (qb q0))).trans (qd (qd (qb q0))))) (nA (nA rfl)).symm), (by rw [((hF.f a9).f b9).eq]; exact (o7.slb Bb)), (by rw [((hF.f a9).f b9).eq]; exact (hos301.slb Ds)), (by rw [((hF.f a9).f b9).eq]; exact (eu.slb Bb)), (rl ((hF.f a9).f b9)), (rl ((hF.f a9).f b9)), (rl ((hF.f a9).f b9))⟩
  ·skip;refine vY ?_;rintro fb ei fc cv ⟨bh, eh, ab, ag, ah, j9⟩;refine ⟨_, _, _, ag, ah, rfl, ?_⟩;refine Bl [3] z5 rfl (List.forall_mem_cons.2 ⟨?_, nofun⟩)
   ·skip;refine Qm rfl (n := s.gens.length) (x0 := default) Dp underlying22 Bb rfl ⟨by omega, by omega⟩ (k := fun ax81 k8 i4 => ?_);refine uW ?_;refine Bl [12] z5 rfl (List.forall_mem_cons.2 ⟨?_, nofun⟩)
    ·skip;refine Fw rfl Af Jq (k := fun po ir => ?_);refine vR ?_;refine Jl ?_;refine uV ?_;refine fY ?_;refine zH ?_;refine Uq (n := s.gens.length) Dp underlying22 Bb i4 q0 Sp Gu rfl (kk := fun bg o7 => ?_);refine Zy ?_;refine Om ?_;refine vJ ?_;refine Un ?_;refine AG3 ?_;refine uT ?_;refine mJ ?_;refine Be (Al Jo) (k := ?_);refine AG0 ?_;refine Gs ?_;refine Gq h.slot.toNat false sizeOf4 Ds q8 (qd (qd q0)) yZ (k := fun Bs301 hos301 => ?_);refine AF6 ?_;refine Zv ?_;refine uT ?_;refine jQ ?_;refine Be (Al Jo) (k := ?_);refine Qx ?_;refine Sy Af Zt (k := fun a71 ua => ?_);refine Kb (s.free ++ ([h.slot] : List Int)) rfl Dp underlying22 Bb j9 q0 (Bv.lit (xs := ([h.slot] : List Int)) Bb) ⟨by omega, by omega⟩ (n := s.free.length) (m := 1) (k := fun ax304 cx304 dk eu => ?_);have hal304 : (s.free ++ ([h.slot] : List Int)).length = s.free.length + 1 := by first | rfl | exact List.length_append | simp
     refine uT ?_;refine Be (Al Jn) (k := ?_);refine Zy ?_;refine T6 ?_;refine kC ?_;refine P5 ?_;refine Z9 ?_;refine Ad results113 (Dd.agg isAgg25 sizeOf25 rfl me rfl z1) (fun w1 hw1 => ?_);exact ⟨ax81, s.gens.length, av, ay, ax304, cx304, (bg ++ (Bs301 ++ dk)), (rq ((hF.f a9).f b9)), (Bd (L := (bg ++ (Bs301 ++ dk))) (hw1.perm ((q0.trans (qd (qb q0))).trans (qd (qd (qb q0))))) (nA (nA rfl)).symm), (by rw [((hF.f a9).f b9).eq]; exact (o7.slb Bb)), (by rw [((hF.f a9).f b9).eq]; exact (hos301.slb Ds)), (by rw [((hF.f a9).f b9).eq]; exact (eu.slb Bb)), (rl ((hF.f a9).f b9)), (rl ((hF.f a9).f b9)), (rl ((hF.f a9).f b9))⟩

theorem X2 (w : World) {n_ : Int} : Calls Tryz.prog 64 (List.toArray [(vi n_)]) w fun e w2 => ∃ a1 : Option Addr, ∃ c1 : Nat, ∃ a2 : Option Addr, ∃ c2 : Nat, ∃ a3 : Option Addr, ∃ c3 : Nat, ∃ B : An, e = .returned (Value.tuple [(Value.agg [(vs a1 ((aJ n_).1.gens.length) c1), (vs a2 ((aJ n_).1.used.length) c2), (vs a3 ((aJ n_).1.free.length) c3)].toArray), (vi ((aJ n_).2))].toArray) ∧ Dj w w2 B ∧ Fl B eI 1 a1 (aJ n_).1.gens ∧ Fl B eB 1 a2 (aJ n_).1.used ∧ Fl B eI 1 a3 (aJ n_).1.free ∧ (aJ n_).1.gens.length ≤ 1000 ∧ (aJ n_).1.used.length ≤ 1000 ∧ (aJ n_).1.free.length ≤ 1000 := by
 have hF := Is.refl (aJ n_);refine enter func64 ntmps64 (h := ?_);refine Z2 ?_;refine Aj Af jN (k := fun r1 p4 => ?_);refine Lo ?_;refine Qb ?_;refine Ar 8 rfl (fun a9 => ?_) (fun a9 => ?_)
 ·refine Ag 2 rfl ?_;refine Ss ?_;refine uZ ?_;refine Qa ?_;refine Ad results64 (Dd.agg isAgg25 sizeOf25 rfl me rfl z1) (fun w1 hw1 => ?_);exact ⟨none, 0, none, 0, none, 0, [], (rq (hF.pos a9)), (hw1.fresh_out.sub Gx), (rn (hF.pos a9)), (rn (hF.pos a9)), (rn (hF.pos a9)), (rl (hF.pos a9)), (rl (hF.pos a9)), (rl (hF.pos a9))⟩
 refine bT ?_;refine Rt ?_;refine Av rfl (fun b9 => ?_) (fun b9 => ?_)
 ·refine Bp ?_;refine Ch ?_;refine uZ ?_;refine Qa ?_;refine Ad results64 (Dd.agg isAgg25 sizeOf25 rfl me rfl z1) (fun w1 hw1 => ?_);exact ⟨none, 0, none, 0, none, 0, [], (rq ((hF.neg a9).pos b9)), (hw1.fresh_out.sub Gx), (rn ((hF.neg a9).pos b9)), (rn ((hF.neg a9).pos b9)), (rn ((hF.neg a9).pos b9)), (rl ((hF.neg a9).pos b9)), (rl ((hF.neg a9).pos b9)), (rl ((hF.neg a9).pos b9))⟩
 refine Kx ?_;refine V4 (σ1 := List Int) (σ2 := Option Addr) (σ3 := Nat) (σ4 := An) (σ5 := List Bool) (σ6 := Option Addr) (σ7 := Nat) (σ8 := An) (σ9 := Nat) (fun x_1 da db bw x_2 o8 o9 m6 bb => (m6 ++ (bw ++ ((bb, oc [(vs da x_1.length db), (vs o8 x_2.length o9), (vs none 0 0)] 25) :: ((r1, oc [(vs none 0 0), (vs none 0 0), (vs none 0 0)] 25) :: []))))) (fun x_1 da db bw x_2 o8 o9 m6 bb => [(0, (vi n_)), (2, (Value.pointer (some ⟨r1, 0, none⟩))), (3, (vi 0)), (4, (Value.pointer (some ⟨bb, 0, none⟩)))]) (fun x_1 da db bw x_2 o8 o9 m6 bb => Is (Is.xr2 ((hF.neg a9).neg b9)) (x_1, x_2) ∧ Bg eI 1 3 da db bw x_1 ∧ Bg eB 1 4 o8 o9 m6 x_2 ∧ x_1.length ≤ 64 ∧ x_2.length ≤ 64) ?_ ?_
 ·skip;refine Vy (V := []) Cy 6 z5 ?_;refine wA ?_;refine Dn 2 rfl z5 Hm (k := ?_);refine Bl [1, 3, 5] z5 rfl (List.forall_mem_cons.2 ⟨?_, (List.forall_mem_cons.2 ⟨?_, (List.forall_mem_cons.2 ⟨?_, nofun⟩)⟩)⟩)
  ·skip;refine Kp rfl (n := n_.toNat) (x0 := default) Dp underlying22 Bb rfl ⟨by omega, by omega⟩ (k := fun ax41 fp bx => ?_);refine Bl [3, 5] z5 rfl (List.forall_mem_cons.2 ⟨?_, (List.forall_mem_cons.2 ⟨?_, nofun⟩)⟩)
   ·skip;refine Kp rfl (n := n_.toNat) (x0 := default) Ps underlying23 Ds rfl ⟨by omega, by omega⟩ (k := fun ax81 k8 i4 => ?_);refine AJ7 ?_;refine Bl [5] z5 rfl (List.forall_mem_cons.2 ⟨?_, nofun⟩)
    ·skip;refine Fw rfl Af jN (k := fun bb iq => ?_);refine Z59 ?_;refine Gz ?_;refine Ce _ ((((qa (qc (qc q0))).trans (qa q0)).trans (qb (qb (qd q0)))).trans (qd (qb (qb q0)))) ?_;exact Ql (List.replicate n_.toNat (default : Int)) ax41 n_.toNat fp (List.replicate n_.toNat (default : Bool)) ax81 n_.toNat k8 bb ⟨(Is.refl (Is.xr2 ((hF.neg a9).neg b9))), bx, i4, zB, zB⟩ se (List.Perm.refl _)
   ·skip;refine Fw rfl Af jN (k := fun bb iq => ?_);refine Bl [3] z5 rfl (List.forall_mem_cons.2 ⟨?_, nofun⟩)
    ·skip;refine Kp rfl (n := n_.toNat) (x0 := default) Ps underlying23 Ds rfl ⟨by omega, by omega⟩ (k := fun ax81 k8 i4 => ?_);refine Q4 ?_;refine Gz ?_;refine Ce _ ((((qc (qa (qc q0))).trans (qa (qc q0))).trans (qb (qb (qd q0)))).trans (qd (qb (qb q0)))) ?_;exact Ql (List.replicate n_.toNat (default : Int)) ax41 n_.toNat fp (List.replicate n_.toNat (default : Bool)) ax81 n_.toNat k8 bb ⟨(Is.refl (Is.xr2 ((hF.neg a9).neg b9))), bx, i4, zB, zB⟩ se (List.Perm.refl _)
  ·skip;refine Kp rfl (n := n_.toNat) (x0 := default) Ps underlying23 Ds rfl ⟨by omega, by omega⟩ (k := fun ax81 k8 i4 => ?_);refine Bl [1, 5] z5 rfl (List.forall_mem_cons.2 ⟨?_, (List.forall_mem_cons.2 ⟨?_, nofun⟩)⟩)
   ·skip;refine Kp rfl (n := n_.toNat) (x0 := default) Dp underlying22 Bb rfl ⟨by omega, by omega⟩ (k := fun ax41 fp bx => ?_);refine AJ7 ?_;refine Bl [5] z5 rfl (List.forall_mem_cons.2 ⟨?_, nofun⟩)
    ·skip;refine Fw rfl Af jN (k := fun bb iq => ?_);refine Z59 ?_;refine Gz ?_;refine Ce _ ((((qa (qc (qc q0))).trans (qa q0)).trans (qb (qb q0))).trans (qd (qb (qb q0)))) ?_;exact Ql (List.replicate n_.toNat (default : Int)) ax41 n_.toNat fp (List.replicate n_.toNat (default : Bool)) ax81 n_.toNat k8 bb ⟨(Is.refl (Is.xr2 ((hF.neg a9).neg b9))), bx, i4, zB, zB⟩ se (List.Perm.refl _)
   ·skip;refine Fw rfl Af jN (k := fun bb iq => ?_);refine Bl [1] z5 rfl (List.forall_mem_cons.2 ⟨?_, nofun⟩)
    ·skip;refine Kp rfl (n := n_.toNat) (x0 := default) Dp underlying22 Bb rfl ⟨by omega, by omega⟩ (k := fun ax41 fp bx => ?_);refine Q4 ?_;refine Gz ?_;refine Ce _ ((((qc (qa (qc q0))).trans (qa (qc q0))).trans (qb (qb q0))).trans (qd (qb (qb q0)))) ?_;exact Ql (List.replicate n_.toNat (default : Int)) ax41 n_.toNat fp (List.replicate n_.toNat (default : Bool)) ax81 n_.toNat k8 bb ⟨(Is.refl (Is.xr2 ((hF.neg a9).neg b9))), bx, i4, zB, zB⟩ se (List.Perm.refl _)
  ·skip;refine Fw rfl Af jN (k := fun bb iq => ?_);refine Bl [1, 3] z5 rfl (List.forall_mem_cons.2 ⟨?_, (List.forall_mem_cons.2 ⟨?_, nofun⟩)⟩)
   ·skip;refine Kp rfl (n := n_.toNat) (x0 := default) Dp underlying22 Bb rfl ⟨by omega, by omega⟩ (k := fun ax41 fp bx => ?_);refine Bl [3] z5 rfl (List.forall_mem_cons.2 ⟨?_, nofun⟩)
    ·skip;refine Kp rfl (n := n_.toNat) (x0 := default) Ps underlying23 Ds rfl ⟨by omega, by omega⟩ (k := fun ax81 k8 i4 => ?_);refine Q4 ?_;refine Gz ?_;exact Ql (List.replicate n_.toNat (default : Int)) ax41 n_.toNat fp (List.replicate n_.toNat (default : Bool)) ax81 n_.toNat k8 bb ⟨(Is.refl (Is.xr2 ((hF.neg a9).neg b9))), bx, i4, zB, zB⟩ se (List.Perm.refl _)
   ·skip;refine Kp rfl (n := n_.toNat) (x0 := default) Ps underlying23 Ds rfl ⟨by omega, by omega⟩ (k := fun ax81 k8 i4 => ?_);refine Bl [1] z5 rfl (List.forall_mem_cons.2 ⟨?_, nofun⟩)
    ·skip;refine Kp rfl (n := n_.toNat) (x0 := default) Dp underlying22 Bb rfl ⟨by omega, by omega⟩ (k := fun ax41 fp bx => ?_);refine Q4 ?_;refine Gz ?_;refine Ce _ ((((qc (qc (qa q0))).trans (qa (qc (qc q0)))).trans (qb (qb q0))).trans (qd (qb (qb q0)))) ?_;exact Ql (List.replicate n_.toNat (default : Int)) ax41 n_.toNat fp (List.replicate n_.toNat (default : Bool)) ax81 n_.toNat k8 bb ⟨(Is.refl (Is.xr2 ((hF.neg a9).neg b9))), bx, i4, zB, zB⟩ se (List.Perm.refl _)
 rintro x_1 da db bw x_2 o8 o9 m6 bb ⟨hJ3, xo, cx, hi4, hi5⟩;refine Zz ?_;refine Qv ?_;refine bY ?_;refine Yh (σ1 := Nat) (σ2 := Nat) (σ3 := List Int) (σ4 := Option Addr) (σ5 := Nat) (σ6 := An) (fun n_8 x_6 x_7 am au n9 => (n9 ++ (m6 ++ (bw ++ ((bb, oc [(vs da x_1.length db), (vs o8 x_2.length o9), (vs am x_7.length au)] 25) :: ((r1, oc [(vs none 0 0), (vs none 0 0), (vs none 0 0)] 25) :: [])))))) (fun n_8 x_6 x_7 am au n9 => [(0, (vi n_)), (2, (Value.pointer (some ⟨r1, 0, none⟩))), (3, (vi 0)), (4, (Value.pointer (some ⟨bb, 0, none⟩))), (18, (vi n_)), (19, (vi ((x_6 : Nat) : Int)))]) (fun n_8 x_6 x_7 am au n9 => (n_ - ((x_6 : Nat) : Int)).toNat < n_8 ∧ Is (cO n_ x_1 x_2 ((n_ - ((0 : Nat) : Int)).toNat + 1) 0 []) (cO n_ x_1 x_2 n_8 x_6 x_7) ∧ Bg eI 1 3 am au n9 x_7 ∧ x_7.length ≤ x_6 ∧ ((x_6 : Nat) : Int) ≤ n_) (fun n_8 x_6 x_7 am au n9 => n_8) ((n_ - ((0 : Nat) : Int)).toNat + 1) 0 ([]) none 0 ([]) ?_ se (List.Perm.refl _) ?_
 ·exact ⟨Nat.lt_succ_self _, Is.refl _, Bg.nil, Na, Na⟩
 ·rintro (_ | n_8) x_6 x_7 am au n9 ⟨hm10, jk, ia, hi11, hi12⟩
  ·omega
  refine gZ ?_;refine Av rfl (fun c7 => ?_) (fun c7 => ?_);rotate_left
  ·refine Cz ?_;refine Vj ?_;refine pL ?_;refine dI ?_;refine Z9 ?_;refine Ad results64 (Dd.agg isAgg25 sizeOf25 rfl me rfl z1) (fun w1 hw1 => ?_);exact ⟨da, db, o8, o9, am, au, (bw ++ (m6 ++ n9)), (rq ((((hF.neg a9).neg b9).rn2 hJ3).rn2 (jk.neg c7))), (Bd (L := (bw ++ (m6 ++ n9))) (hw1.perm ((q0.trans (qd q0)).trans (qd (qd q0)))) (nA (nA rfl)).symm), (by rw [((((hF.neg a9).neg b9).rn2 hJ3).rn2 (jk.neg c7)).eq]; exact (xo.slb Bb)), (by rw [((((hF.neg a9).neg b9).rn2 hJ3).rn2 (jk.neg c7)).eq]; exact (cx.slb Ds)), (by rw [((((hF.neg a9).neg b9).rn2 hJ3).rn2 (jk.neg c7)).eq]; exact (ia.slb Bb)), (rl ((((hF.neg a9).neg b9).rn2 hJ3).rn2 (jk.neg c7))), (rl ((((hF.neg a9).neg b9).rn2 hJ3).rn2 (jk.neg c7))), (rl ((((hF.neg a9).neg b9).rn2 hJ3).rn2 (jk.neg c7)))⟩
  refine Qf ?_;refine Z5 ?_;refine Z1 ?_;refine Ch ?_;refine vW ?_;refine dH ?_;refine Cr ?_;refine dH ?_;refine Aj Af Zt (k := fun e53 c84 => ?_);refine Ba (x_7 ++ ([((n_ - 1) - ((x_6 : Nat) : Int))] : List Int)) rfl Dp underlying22 Bb ia (qb q0) (Bv.lit (xs := ([((n_ - 1) - ((x_6 : Nat) : Int))] : List Int)) Bb) ⟨by omega, by omega⟩ (n := x_7.length) (m := 1) (k := fun ax161 cx161 j7 i6 => ?_);have hal161 : (x_7 ++ ([((n_ - 1) - ((x_6 : Nat) : Int))] : List Int)).length = x_7.length + 1 := by first | rfl | exact List.length_append | simp
  refine vC ?_;refine Gz ?_;refine dD ?_;refine Ce _ (((((qc (qa (qc (qc (qa q0))))).trans (qa (qc (qa (qc (qc q0)))))).trans (qb (qb (qd (qb (qd q0)))))).trans (qd (qb (qb (qd (qb q0)))))).trans (qd (qd (qb (qb q0))))) ?_;refine wB ?_;exact Ra n_8 (x_6 + 1) (x_7 ++ ([((n_ - 1) - ((x_6 : Nat) : Int))] : List Int)) ax161 cx161 j7 ⟨by omega, (jk.pos c7), i6, z4, z4⟩ (Nat.lt_succ_self _) se (List.Perm.refl _)

end Go.Proofs.YtopjaeoklkpcpaaGreatDoor.Jd

