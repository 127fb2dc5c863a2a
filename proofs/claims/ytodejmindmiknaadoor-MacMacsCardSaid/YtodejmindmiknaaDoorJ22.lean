/- strings.Builder's own operations: a pointer to itself, unsafe pointers, unsafe.String. No condition. -/
import Derived.Test.YtodejmindmiknaaDoorJ20
import Derived.Lib.Builder
import Derived.Lib.UnsafeStr
namespace Go.Proofs.YtodejmindmiknaaDoor.Jd
set_option linter.unusedSimpArgs false
open Go.RowKit (Below)
set_option linter.unusedVariables false
def selfp (b : Bool) (r : Nat) : Option Addr := match b with
  | true => some ⟨r, 0, none⟩
  | false => none
section
variable {P : Program} {rd : Option Nat} {b0 : World} {Mk : List Nat} {N : Nat} {D : List Deferred} {ops : Array Oper} {L V : Heap} {E : Env} {T : Act → World → Prop}
variable {op : Op} {ty : TypeId} {pos : String} {after : Array Edge} {d : Nat}
theorem q_ptrNil {t t' : TypeId} {x y : Operand} {b : Bool} {r : Nat} (h1 : ∀ w, (do eqGuard .eql t x y (.pointer (some ⟨r, 0, none⟩)) (.pointer none); binOp .eql t (.pointer (some ⟨r, 0, none⟩)) (.pointer none) : Sem Value).run P w = .ok (.bool false) w)
    (h0 : ∀ w, (do eqGuard .eql t x y (.pointer none) (.pointer none); binOp .eql t (.pointer none) (.pointer none) : Sem Value).run P w = .ok (.bool true) w) (hx : ev E x = some (.pointer (selfp b r)) := by rfl) (hy : ev E y = some (.pointer none) := by rfl) : RunQ P N D b0 Mk L E (.binOp .eql t x y t') ty (.bool (!b)) := by
  cases b
  · exact q_eqS h0 hx hy
  · exact q_eqS h1 hx hy
theorem q_ptrSelf {t t' el : TypeId} {x y : Operand} {b : Bool} {r : Nat} {j : TypeInfo} (hp : P.underlying t = some (.pointer el)) (hte : P.info? el = some j) (hb : b = true) (hx : ev E x = some (.pointer (selfp b r)) := by rfl) (hy : ev E y = some (.pointer (some ⟨r, 0, none⟩)) := by rfl) : RunQ P N D b0 Mk L E (.binOp .neq t x y t') ty (.bool false) := by
  subst hb
  refine q_neS (fun w => ?_) hx hy
  have := Lib.run_neq_ptr_same (P := P) w (⟨r, 0, none⟩ : Addr) hp hte
  simp only [Sem.run_bind, selfp]
  simp [eqGuard, this]
theorem q_toUP {s t u : TypeId} {x : Operand} {r : Nat} {l : List Value} {T' : TypeId} {f : Nat × Nat} {j : TypeInfo} (hs : P.underlying s = some (.pointer t)) (hd : P.underlying u = some .unsafePointer) (ht : P.info? t = some j) (hj : j.size ≠ 0) (hx : ev E x = some (.pointer (some ⟨r, 0, none⟩)) := by rfl)
    (hm : (r, Obj.cells l.toArray T' f) ∈ L := by repeat (first | exact List.mem_cons_self | apply List.mem_cons_of_mem | apply List.mem_append_right)) (hl : 0 < l.length := by simp) :
    RunQ P N D b0 Mk L E (.convert s u x) ty (.pointer (some ⟨r, 0, none⟩)) := fun a w ha hw => by
  have ho := hw.own _ hm
  simp only at ho
  have hsh : w.shape? r = some (T', l.length) := by simp [World.shape?, ho]
  have := Lib.run_to_unsafe (P := P) w (⟨r, 0, none⟩ : Addr) hs hd ht hj hsh hl
  simp [mkO, execOp, ha.eval hx, this]
theorem q_fromUP {s t u : TypeId} {x : Operand} {r n : Nat} {l : List Value} {T' : TypeId} {f : Nat × Nat} {j : TypeInfo} (hs : P.underlying u = some .unsafePointer) (hd : P.underlying s = some (.pointer t)) (ht : P.info? t = some j) (hl : liesAt P P.depth T' (n / P.cellsOf T') 0 t 1 = true) (hx : ev E x = some (.pointer (some ⟨r, 0, none⟩)) := by rfl)
    (hm : (r, Obj.cells l.toArray T' f) ∈ L := by repeat (first | exact List.mem_cons_self | apply List.mem_cons_of_mem | apply List.mem_append_right)) (hn : l.length = n := by rfl) :
    RunQ P N D b0 Mk L E (.convert u s x) ty (.pointer (some ⟨r, 0, none⟩)) := fun a w ha hw => by
  subst hn
  have ho := hw.own _ hm
  simp only at ho
  have hsh : w.shape? r = some (T', l.length) := by simp [World.shape?, ho]
  have := Lib.run_from_unsafe (P := P) w (⟨r, 0, none⟩ : Addr) hs hd ht hsh hl
  simp [mkO, execOp, ha.eval hx, this]
/-- A call of a function that the model answers at once, its world left as it is. -/
theorem q_entry {fo x : Operand} {k : FuncId} {v u : Value} {tys : Array TypeId} (hc : ∀ w, (callFunc k #[u]).run P w = .ok (.value v) w) (hf : ev E fo = some (.func (.func k) #[] #[]) := by rfl) (hx : ev E x = some u := by rfl) :
    RunQ P N D b0 Mk L E (.call { callee := .value fo, args := #[x], argTypes := tys }) ty v := fun a w ha _ => by
  simp only [mkO, execOp, resolve, ha.eval hf, Deferred.ofValue]
  simp [invoke, ha.eval hx, hc]
/-- unsafe.SliceData of a slice of the call's own that is not empty. -/
theorem q_usd {t et : TypeId} {x : Operand} {a : Option Addr} {n c : Nat} {B : Heap} {xs : List Int} (ho : OwnB eI_u8 1 et a c B xs) (hne : 0 < xs.length) (hx : ev E x = some (.slice a n c) := by rfl) :
    RunQ P N D b0 Mk L E (.call { callee := .builtin .unsafeSliceData, args := #[x], argTypes := #[t] }) ty (.pointer a) := fun ac w ha hw => by
  rcases ho with ⟨rfl, rfl, rfl⟩ | ⟨r, cur, fz, rfl, rfl, hfz, h1, h2, h3⟩
  · simp at hne
  · have := Lib.run_unsafeSliceData_row (P := P) w #[t] ty (⟨r, 0, none⟩ : Addr) n c (by omega)
    simp [mkO, execOp, resolve, invoke, builtin, ha.eval hx, this]
/-- unsafe.String of it: its bytes; the slice is not looked at again. -/
theorem e_ustr {pt it e : TypeId} {x y : Operand} {a : Option Addr} {n c : Nat} {B : Heap} {xs : List Int} (hp : P.underlying pt = some (.pointer e)) (hc : P.cellsOf e = 1) (ho : OwnB eI_u8 1 e a c B xs) (hB : ∀ p ∈ B, p ∈ L) (hne : 0 < xs.length) (h63 : xs.length ≤ 9223372036854775807) (hr : ∀ z ∈ xs, 0 ≤ z ∧ z ≤ 255) (hn : xs.length = n)
    (hx : ev E x = some (.pointer a)) (hy : ev E y = some (.int .i64 n)) :
    RunM P N D b0 Mk L E (.call { callee := .builtin .unsafeString, args := #[x, y], argTypes := #[pt, it] }) ty B Unit (fun _ => .value (.string (bs (toS xs)))) (fun _ => []) (fun _ => True) := fun ac w ha hw => by
  subst hn
  rcases ho with ⟨rfl, rfl, rfl⟩ | ⟨r, cur, fz, rfl, rfl, hfz, h1, h2, h3⟩
  · simp at hne
  · have hh : w.heap[r]? = some (.cells cur e fz) := hw.own _ (hB _ List.mem_cons_self)
    have hsh : w.shape? r = some (e, cur.size) := by simp [World.shape?, hh]
    have hl : (toS xs).length = xs.length := toS_length
    have hrun := Lib.run_unsafeString_row (P := P) w pt it ty e hp hc r cur.size hsh (toS xs) (by intro e0; rw [e0] at hl; simp at hl; omega) (by rw [hl, h2]; omega) (by omega) (fun j z hj => by
      have hjx : j < xs.length := by
        have := (List.getElem?_eq_some_iff.1 hj).1
        omega
      have hz : z = UInt8.ofNat (xs[j]).toNat := by
        simp [toS, hjx] at hj
        exact hj.symm
      have hb := hr _ (List.getElem_mem hjx)
      have hzn : ((z.toNat : Nat) : Int) = xs[j] := by
        subst hz
        simp
        omega
      have hg : cur.toList[j]? = some (.int .u8 xs[j]) := by
        have : (cur.toList.take (xs.length * 1))[j]? = some (.int .u8 xs[j]) := by
          rw [h3, flat_u8]; simp [aI, hjx]
        rw [List.getElem?_take] at this
        split at this
        · exact this
        · cases this
      rw [addr_add, hzn]
      simp only [World.cell?, hh, Nat.zero_add]
      simpa using hg)
    rw [hl] at hrun
    refine ⟨(), w.freeze ⟨r, 0, none⟩ xs.length, ?_, ?_, trivial⟩
    · simp [mkO, execOp, resolve, invoke, builtin, ha.eval hx, ha.eval hy, hrun, bs]
    · have hne0 : xs.length ≠ 0 := by omega
      refine ⟨?_, ?_, ?_, ?_, fun k hk hkk => ?_, (fun p hp => by cases hp), (fun p hp => by cases hp), by simp [keys]⟩
      all_goals simp only [World.freeze, if_neg hne0]
      · simp
      · rw [Array.getElem?_modify, if_neg (fun e => hkk (by subst e; simp [keys]))]
theorem JD_ustr {pt it e : TypeId} {x y : Operand} {a : Option Addr} {n c : Nat} {B R : Heap} {xs : List Int} {l : List (Bool × Oper)} (hp : P.underlying pt = some (.pointer e)) (hc : P.cellsOf e = 1) (ho : OwnB eI_u8 1 e a c B xs) (hV : List.Perm V (B ++ R)) (hne : 0 < xs.length) (h63 : xs.length ≤ 9223372036854775807) (hr : ∀ z ∈ xs, 0 ≤ z ∧ z ≤ 255)
    (hx : ev E x = some (.pointer a) := by rfl) (hy : ev E y = some (.int .i64 n) := by rfl) (hn : xs.length = n := by rfl) (hd : Nat.blt d N = true := by rfl) (k : JD P rd b0 Mk N D ops L R ((d, .string (bs (toS xs))) :: E) l T) :
    JD P rd b0 Mk N D ops L V E ((false, { dst := some d, op := .call { callee := .builtin .unsafeString, args := #[x, y], argTypes := #[pt, it] }, type := ty, pos := pos, after := after, guard := none }) :: l) T :=
  JD_e hV (e_ustr hp hc ho (fun p hp => List.mem_append_left _ (hV.mem_iff.2 (List.mem_append_left _ hp))) hne h63 hr hn hx hy) rfl hd (fun _ _ => k)
end
end Go.Proofs.YtodejmindmiknaaDoor.Jd
