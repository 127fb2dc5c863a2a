/- Maps told as sets; values of interface types. No condition. -/
import Derived.Test.YtodejmindmiknaaDoorJ19
namespace Go.Proofs.YtodejmindmiknaaDoor.Jd
set_option linter.unusedSimpArgs false
open Go.RowKit (Below)
set_option linter.unusedVariables false
/-- A map whose values are all true: the list of its keys. -/
def MSet {κ : Type} (enc : κ → Value) (es : Array MapEntry) (xs : List κ) : Prop := MapIs enc es (xs.map fun q => (q, Value.bool true))
theorem MSet.nil {κ : Type} {enc : κ → Value} : MSet enc #[] [] := rfl
theorem lookL_set {κ : Type} [DecidableEq κ] (q : κ) : ∀ (xs : List κ), (lookL (xs.map fun q => (q, Value.bool true)) q).getD (.bool false) = .bool (decide (q ∈ xs))
  | [] => by simp [lookL]
  | x :: r => by
    have ih := lookL_set q r
    by_cases h : x = q
    · subst h; simp [lookL]
    · have h' : ¬ q = x := fun e => h e.symm
      simp only [lookL, List.map_cons, List.find?_cons, h, decide_false] at ih ⊢
      rw [ih]
      simp [h']
theorem keyStr : KeyOk (κ := Str) .string (fun s => .string (bs s)) := by
  refine ⟨fun x y => ?_, fun n t x P w h => ?_⟩
  · simp only [Instr.sameNow]
    rw [beq_toListBytes, bs_toList, bs_toList]
    by_cases hh : x = y <;> simp [hh]
  · show (do match ← underlying t, Value.string (bs x) with | _, _ => _ : Sem Unit).run P w = _
    simp only [Sem.run_bind, h, Result.andThen_ok, Sem.run_pure]
theorem xorI_u8 (a b : Int) : 0 ≤ xorI .u8 a b ∧ xorI .u8 a b ≤ 255 := by
  unfold xorI
  simp only [IntKind.wrap, IntKind.bits, IntKind.signed]
  simp
  omega
theorem xorI_u8_i64 (a b : Int) : -9223372036854775808 ≤ xorI .u8 a b ∧ xorI .u8 a b ≤ 9223372036854775807 := by
  have := xorI_u8 a b
  omega
section
variable {P : Program} {rd : Option Nat} {b0 : World} {Mk : List Nat} {N : Nat} {D : List Deferred} {ops : Array Oper} {L V : Heap} {E : Env} {T : Act → World → Prop}
variable {op : Op} {ty : TypeId} {pos : String} {after : Array Edge} {d : Nat}
theorem q_inSet {κ : Type} [DecidableEq κ] {kd : TypeDesc} {enc : κ → Value} {t kt et : TypeId} {x y : Operand} {r ck : Nat} {es : Array MapEntry} {xs : List κ} (q : κ) (hk : KeyOk kd enc) (hU : ∀ w, (underlying t).run P w = .ok (.map kt et) w) (hK : ∀ w, (underlying kt).run P w = .ok kd w)
    (hz : ∀ w, (zeroValue et).run P w = .ok (.bool false) w) (hes : MSet enc es xs) (hx : ev E x = some (.map (some r)) := by rfl) (hy : ev E y = some (enc q) := by rfl)
    (hm : (r, Obj.map es ck) ∈ L := by repeat (first | exact List.mem_cons_self | apply List.mem_cons_of_mem | apply List.mem_append_right)) :
    RunQ P N D b0 Mk L E (.lookup t x y false) ty (.bool (decide (q ∈ xs))) := by
  have := q_lookup (P := P) (N := N) (D := D) (b0 := b0) (Mk := Mk) (L := L) (E := E) (ty := ty) (t := t) q hk hU hK hz hes hx hy hm
  rw [lookL_set] at this
  exact this
theorem JD_nil0 {l : List Oper} (h : JL P rd b0 Mk N D ops L E l T) : JD P rd b0 Mk N D ops L [] E [] (fun a w => wpL P rd ops T l a w) := JD_nil h
theorem JD_es {l : List (Bool × Oper)} {H R : Heap} {X : Type} {H' : X → Heap} {Pr : X → Prop} (hV : List.Perm V (H ++ R)) (h : RunM P N D b0 Mk (V ++ L) E op ty H X (fun _ => .skip) H' Pr) (hn : notDeferOp op = true := by rfl)
    (k : ∀ x, Pr x → JD P rd b0 Mk N D ops L (H' x ++ R) E l T) : JD P rd b0 Mk N D ops L V E ((false, { dst := none, op := op, type := ty, pos := pos, after := after, guard := none }) :: l) T := by
  intro a w ha hw
  unfold wpS
  rw [if_pos (by rfl)]
  obtain ⟨x, w', h1, h2, h3⟩ := h a w ha hw
  have hw2 : SH b0 Mk (H ++ (R ++ L)) w := by rw [← List.append_assoc]; exact hw.perm (hV.append_right L)
  have hw3 : SH b0 Mk ((H' x ++ R) ++ L) w' := by rw [List.append_assoc]; exact hw2.tr h2
  exact wpIn_skip' (notDefer_mk hn) (by rw [execOp_mkO]; exact h1) ⟨SH b0 Mk L, fun _ h => h, hw3.right, k x h3 _ _ ha hw3⟩
theorem JL_sput {κ : Type} [DecidableEq κ] {kd : TypeDesc} {enc : κ → Value} {t kt et : TypeId} {x y u : Operand} {r ck : Nat} {es : Array MapEntry} {xs : List κ} {R : Heap} {l : List Oper} (q : κ) (hk : KeyOk kd enc) (hU : ∀ w, (underlying t).run P w = .ok (.map kt et) w) (hK : ∀ w, (underlying kt).run P w = .ok kd w)
    (hes : MSet enc es xs) (hnew : ¬ q ∈ xs) (hL : List.Perm L ((r, Obj.map es ck) :: R)) (hx : ev E x = some (.map (some r)) := by rfl) (hy : ev E y = some (enc q) := by rfl) (hu : ev E u = some (.bool true) := by rfl)
    (k : ∀ es2 ck2, MSet enc es2 (xs ++ [q]) → JL P rd b0 Mk N D ops ((r, Obj.map es2 ck2) :: R) E l T) :
    JL P rd b0 Mk N D ops L E ({ dst := none, op := .mapUpdate t x y u, type := ty, pos := pos, after := after, guard := none } :: l) T :=
  JL_put q hk hU hK hes (by simp only [List.mem_map]; rintro p ⟨z, hz, rfl⟩ e; exact hnew (e ▸ hz)) hL hx hy hu (fun es2 ck2 h => k es2 ck2 (by simpa [MSet] using h))
theorem JD_sput {κ : Type} [DecidableEq κ] {kd : TypeDesc} {enc : κ → Value} {t kt et : TypeId} {x y u : Operand} {r ck : Nat} {es : Array MapEntry} {xs : List κ} {R : Heap} {l : List (Bool × Oper)} (q : κ) (hk : KeyOk kd enc) (hU : ∀ w, (underlying t).run P w = .ok (.map kt et) w) (hK : ∀ w, (underlying kt).run P w = .ok kd w)
    (hes : MSet enc es xs) (hnew : ¬ q ∈ xs) (hV : List.Perm V ((r, Obj.map es ck) :: R)) (hx : ev E x = some (.map (some r)) := by rfl) (hy : ev E y = some (enc q) := by rfl) (hu : ev E u = some (.bool true) := by rfl)
    (k : ∀ es2 ck2, MSet enc es2 (xs ++ [q]) → JD P rd b0 Mk N D ops L ((r, Obj.map es2 ck2) :: R) E l T) :
    JD P rd b0 Mk N D ops L V E ((false, { dst := none, op := .mapUpdate t x y u, type := ty, pos := pos, after := after, guard := none }) :: l) T :=
  JD_es (H := [(r, Obj.map es ck)]) hV (e_put q hk hU hK hes (by simp only [List.mem_map]; rintro p ⟨z, hz, rfl⟩ e; exact hnew (e ▸ hz)) hx hy hu (List.mem_append_left _ (hV.mem_iff.2 List.mem_cons_self))) rfl (fun x hq => k x.1 x.2 (by simpa [MSet] using hq))
theorem q_mkI {t : TypeId} {x : Operand} {v : Value} {u : TypeDesc} (hU : P.underlying t = some u) (hx : ev E x = some v := by rfl) (hu : ∀ ms, u ≠ .interface ms := by intro ms h; cases h) : RunQ P N D b0 Mk L E (.makeInterface t x) ty (.iface t v) := fun a w ha _ => by
  cases u with
  | interface ms => exact absurd rfl (hu ms)
  | _ => simp [mkO, execOp, ha.eval hx, Instr.makeInterface, run_underlying hU]
end
end Go.Proofs.YtodejmindmiknaaDoor.Jd
