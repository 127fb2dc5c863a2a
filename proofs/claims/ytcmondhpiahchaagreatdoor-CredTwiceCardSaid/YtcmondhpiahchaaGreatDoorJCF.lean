/- errors.Is on sentinels, errors.As; what the sentinels hold. No condition. -/
import Derived.Test.YtcmondhpiahchaaGreatDoorChecked
import Derived.Test.YtcmondhpiahchaaGreatDoorJ20
import Derived.WalkKit
import Derived.LaidEql
import Derived.Stop.Asserts
import Derived.RowKitTokens
namespace Go.Proofs.YtcmondhpiahchaaGreatDoor.Jd
open Go.Proofs
set_option maxRecDepth 100000
open Go.RowKit Go.Extern.Stop Go.Stop Go.Extern
set_option linter.unusedVariables false
set_option linter.unusedSimpArgs false
theorem as_nil (t : Value) (w : World) : Calls Tryz.prog 49 #[.nilIface, t] w fun e w' => e = .returned (.bool false) ∧ w' = w := by
  go_enter Tryz.func49, Tryz.ntmps49
  go_wp2
  go_ret
  exact ⟨rfl, rfl⟩
theorem as_nil_v (w : World) {t : Value} : Val Tryz.prog 49 [.nilIface, t] w (.bool false) :=
  (as_nil t w).mono fun e w' ⟨he, hw⟩ => ⟨he, hw ▸ Below.refl _ _⟩
theorem as_valueOfP (t : Addr) (w : World) : (ReflectliteValue.unpack (.iface 77 (.pointer (some t)))).run Tryz.prog w
    = .ok (.agg #[.pointer (some ⟨8, 77, none⟩), .pointer (some ⟨w.heap.size, 0, none⟩), .int .u64 150]) (w.alloc (.cells #[.pointer (some t)] 77)) := by kernel_rfl
theorem as_typeP (a : Addr) (w : World) : (ReflectliteValue.methodAny (ReflectliteValue.valueError "reflectlite.Value.Type" 0) (fun t _ _ _ => ReflectliteType.toType t) #[.agg #[.pointer (some ⟨8, 77, none⟩), .pointer (some a), .int .u64 150]]).run Tryz.prog w
    = .ok (.iface 136 (.agg #[.pointer (some ⟨8, 77, none⟩)])) w := by kernel_rfl
theorem as_methodKind (h : Value) (w : World) : (Go.method 304 136 (.agg #[h]) "Kind").run Tryz.prog w = .ok (114, h) w := by kernel_rfl
theorem as_kindP (w : World) : ((ReflectliteType.abiMethod fun t => (fun a : Nat => Value.int IntKind.u8 (a : Int)) <$> Rtype.kind t) #[.pointer (some ⟨8, 77, none⟩)]).run Tryz.prog w = .ok (.int .u8 22) w := by kernel_rfl
theorem as_kindW (w : World) : ((ReflectliteType.abiMethod fun t => (fun a : Nat => Value.int IntKind.u8 (a : Int)) <$> Rtype.kind t) #[.pointer (some ⟨8, 75, none⟩)]).run Tryz.prog w = .ok (.int .u8 25) w := by kernel_rfl
theorem as_rlm (z : Sem Value) (f : TypeId → Addr → Nat → Nat → Sem Value) (v : Value) :
    ReflectliteValue.method z f #[v] = (do match ← ReflectliteValue.parts v with | none => z | some (t, a, fl) => f t a fl (fl % 32)) := rfl
theorem as_partsP (a : Addr) (w : World) : (ReflectliteValue.parts (.agg #[.pointer (some ⟨8, 77, none⟩), .pointer (some a), .int .u64 150])).run Tryz.prog w = .ok (some (77, a, 150)) w := by kernel_rfl
theorem as_isNilP (a p : Addr) (W : World) (ha : W.cell? a = some (.pointer (some p))) :
    (ReflectliteValue.method (ReflectliteValue.valueError "reflectlite.Value.IsNil" 0) ReflectliteValue.isNil #[.agg #[.pointer (some ⟨8, 77, none⟩), .pointer (some a), .int .u64 150]]).run Tryz.prog W = .ok (.bool false) W := by
  rw [as_rlm]
  simp only [Sem.run_bind, as_partsP, Result.andThen]
  simp [ReflectliteValue.isNil, loadVar, isAgg, underlying, Tryz.underlying77, ha, Result.andThen]
theorem as_methodElem (h : Value) (w : World) : (Go.method 304 136 (.agg #[h]) "Elem").run Tryz.prog w = .ok (125, .agg #[h]) w := by kernel_rfl
theorem as_methodImplements (h : Value) (w : World) : (Go.method 304 136 (.agg #[h]) "Implements").run Tryz.prog w = .ok (126, .agg #[h]) w := by kernel_rfl
theorem as_methodAssignableTo (h : Value) (w : World) : (Go.method 304 136 (.agg #[h]) "AssignableTo").run Tryz.prog w = .ok (123, .agg #[h]) w := by kernel_rfl
theorem as_elemP (w : World) : (ReflectliteType.method ReflectliteType.elem #[.agg #[.pointer (some ⟨8, 77, none⟩)]]).run Tryz.prog w = .ok (.iface 136 (.agg #[.pointer (some ⟨8, 75, none⟩)])) w := by kernel_rfl
theorem as_implementsW (w : World) : (ReflectliteType.relation "Implements" ReflectliteType.implements_ #[.agg #[.pointer (some ⟨8, 75, none⟩)], .iface 136 (.agg #[.pointer (some ⟨8, 47, none⟩)])]).run Tryz.prog w = .ok (.bool true) w := by kernel_rfl
theorem as_typeOfW (v : Value) (w : World) : (ReflectliteType.typeOf #[.iface 75 v]).run Tryz.prog w = .ok (.iface 136 (.agg #[.pointer (some ⟨8, 75, none⟩)])) w := by kernel_rfl
theorem as_assignableW (w : World) : (ReflectliteType.relation "AssignableTo" ReflectliteType.assignableTo #[.agg #[.pointer (some ⟨8, 75, none⟩)], .iface 136 (.agg #[.pointer (some ⟨8, 75, none⟩)])]).run Tryz.prog w = .ok (.bool true) w := by kernel_rfl
theorem as_valueOfW (k : Int) (w : World) : (ReflectliteValue.unpack (.iface 75 (.agg #[.int .i64 k]))).run Tryz.prog w
    = .ok (.agg #[.pointer (some ⟨8, 75, none⟩), .pointer (some ⟨w.heap.size, 0, none⟩), .int .u64 153]) (w.alloc (.cells #[.int .i64 k] 75)) := by kernel_rfl
theorem as_elemOfP (w : World) : (Rtype.elem? 77).run Tryz.prog w = .ok (some 75) w := by kernel_rfl
theorem as_mkW (p : Addr) (w : World) : (ReflectliteValue.mk 75 p ReflectliteValue.flagAddr).run Tryz.prog w = .ok (.agg #[.pointer (some ⟨8, 75, none⟩), .pointer (some p), .int .u64 409]) w := by kernel_rfl
theorem as_elemVP (a p : Addr) (W : World) (ha : W.cell? a = some (.pointer (some p))) :
    (ReflectliteValue.method (ReflectliteValue.valueError "reflectlite.Value.Elem" 0) ReflectliteValue.elem #[.agg #[.pointer (some ⟨8, 77, none⟩), .pointer (some a), .int .u64 150]]).run Tryz.prog W
      = .ok (.agg #[.pointer (some ⟨8, 75, none⟩), .pointer (some p), .int .u64 409]) W := by
  rw [as_rlm]
  simp only [Sem.run_bind, as_partsP, Result.andThen]
  simp [ReflectliteValue.elem, loadVar, isAgg, underlying, Tryz.underlying77, ha, Result.andThen, as_elemOfP, as_mkW]
theorem as_rls (v x : Value) : ReflectliteValue.set #[v, x] = (do
    let (some (dst, a, fl), some (src, b, _)) := (← ReflectliteValue.parts v, ← ReflectliteValue.parts x)
      | unsupported (.noEntry "extern/(internal/reflectlite.Value).Set.zeroValue")
    if fl / ReflectliteValue.flagAddr % 2 == 0 then unsupported (.noEntry "extern/(internal/reflectlite.Value).Set.unaddressable")
    let val ← loadVar src b
    if ← Rtype.directlyAssignable dst src then storeVar dst a val
    else if ← Rtype.implements dst src then
      if (← Rtype.kind src) == 20 then
        match val with
        | .nilIface => unsupported (.noEntry "extern/reflectlite: a nil value of one interface type handed on as a value of another")
        | _ => storeVar dst a val
      else storeVar dst a (.iface src val)
    else panicString ("reflectlite.Set: value of type " ++ (← Rtype.spelt src) ++ " is not assignable to type " ++ (← Rtype.spelt dst))
    pure (.tuple #[])) := rfl
theorem as_partsA (a : Addr) (w : World) : (ReflectliteValue.parts (.agg #[.pointer (some ⟨8, 75, none⟩), .pointer (some a), .int .u64 409])).run Tryz.prog w = .ok (some (75, a, 409)) w := by kernel_rfl
theorem as_partsW (a : Addr) (w : World) : (ReflectliteValue.parts (.agg #[.pointer (some ⟨8, 75, none⟩), .pointer (some a), .int .u64 153])).run Tryz.prog w = .ok (some (75, a, 153)) w := by kernel_rfl
theorem as_directW (w : World) : (Rtype.directlyAssignable 75 75).run Tryz.prog w = .ok true w := by kernel_rfl
theorem as_sizeW (w : World) : (sizeOf 75).run Tryz.prog w = .ok 1 w := by kernel_rfl
theorem as_aggW (w : World) : (isAgg 75).run Tryz.prog w = .ok true w := by kernel_rfl
theorem as_setW (ta b : Addr) (k : Int) (old : Value) (W : World) (hb : W.cell? b = some (.int .i64 k)) (hsb : b.spot = none) (ht : W.cell? ta = some old) (hst : ta.spot = none) (hf : W.frozen? ta = false) :
    (ReflectliteValue.set #[.agg #[.pointer (some ⟨8, 75, none⟩), .pointer (some ta), .int .u64 409], .agg #[.pointer (some ⟨8, 75, none⟩), .pointer (some b), .int .u64 153]]).run Tryz.prog W
      = .ok (.tuple #[]) (W.setCell ta (.int .i64 k)) := by
  have hl : (loadCells b 1).run Tryz.prog W = .ok #[.int .i64 k] W := run_loadCells_list (P := Tryz.prog) W b [.int .i64 k] (fun j v hj => by
    rcases j with _ | j
    · cases hj
      simpa [Addr.add] using hb
    · simp at hj)
  rw [as_rls]
  simp only [Sem.run_bind, as_partsA, as_partsW, Result.andThen]
  simp [ReflectliteValue.flagAddr, loadVar, as_aggW, as_sizeW, hl, Result.andThen, as_directW, storeVar, Value.cells, storeCells, Addr.add]
  rw [run_store Tryz.prog W ta _ _ (by rfl)]
  simp [ht, hf]
set_option maxHeartbeats 4000000 in
theorem as_hit (k : Int) (t : Addr) (old : Value) (w : World) (hg : w.cell? ⟨2, 0, none⟩ = some (.iface 136 (.agg #[.pointer (some ⟨8, 47, none⟩)]))) (ht0 : w.cell? t = some old) (hst : t.spot = none) (hf0 : w.frozen? t = false) :
    Calls Tryz.prog 49 #[.iface 75 (.agg #[.int .i64 k]), .iface 77 (.pointer (some t))] w fun ev w' => ev = .returned (.bool true) ∧ w' = ((((w.alloc (.cells #[.pointer (some t)] 77)).alloc (.cells #[.pointer (some ⟨8, 77, none⟩), .pointer (some ⟨w.heap.size, 0, none⟩), .int .u64 150] 113)).alloc (.cells #[.pointer (some ⟨8, 77, none⟩), .pointer (some ⟨w.heap.size, 0, none⟩), .int .u64 150] 113)).alloc (.cells #[.int .i64 k] 75)).setCell t (.int .i64 k) := by
  have h6 := @run_callFunc_extern Tryz.prog 63 _ (fun args => ReflectliteValue.unpack (args.getD 0 (.tuple #[]))) Tryz.func63 (by kernel_rfl) (by kernel_rfl) (by kernel_rfl) (by kernel_rfl)
  have h7 := @run_callFunc_extern Tryz.prog 64 _ (ReflectliteValue.methodAny (ReflectliteValue.valueError "reflectlite.Value.Type" 0) (fun t _ _ _ => ReflectliteType.toType t)) Tryz.func64 (by kernel_rfl) (by kernel_rfl) (by kernel_rfl) (by kernel_rfl)
  have h8 := @run_callFunc_extern Tryz.prog 65 _ (ReflectliteValue.method (ReflectliteValue.valueError "reflectlite.Value.IsNil" 0) ReflectliteValue.isNil) Tryz.func65 (by kernel_rfl) (by kernel_rfl) (by kernel_rfl) (by kernel_rfl)
  have h27 := @run_callFunc_extern Tryz.prog 114 _ (ReflectliteType.abiMethod fun t => do pure (.int .u8 (← Rtype.kind t))) Tryz.func114 (by kernel_rfl) (by kernel_rfl) (by kernel_rfl) (by kernel_rfl)
  have h37 := @run_callFunc_extern Tryz.prog 125 _ (ReflectliteType.method ReflectliteType.elem) Tryz.func125 (by kernel_rfl) (by kernel_rfl) (by kernel_rfl) (by kernel_rfl)
  have h38 := @run_callFunc_extern Tryz.prog 126 _ (ReflectliteType.relation "Implements" ReflectliteType.implements_) Tryz.func126 (by kernel_rfl) (by kernel_rfl) (by kernel_rfl) (by kernel_rfl)
  have h10 := @run_callFunc_extern Tryz.prog 67 _ ReflectliteType.typeOf Tryz.func67 (by kernel_rfl) (by kernel_rfl) (by kernel_rfl) (by kernel_rfl)
  have h35 := @run_callFunc_extern Tryz.prog 123 _ (ReflectliteType.relation "AssignableTo" ReflectliteType.assignableTo) Tryz.func123 (by kernel_rfl) (by kernel_rfl) (by kernel_rfl) (by kernel_rfl)
  have h11 := @run_callFunc_extern Tryz.prog 77 _ (ReflectliteValue.method (ReflectliteValue.valueError "reflectlite.Value.Elem" 0) ReflectliteValue.elem) Tryz.func77 (by kernel_rfl) (by kernel_rfl) (by kernel_rfl) (by kernel_rfl)
  have h12 := @run_callFunc_extern Tryz.prog 78 _ ReflectliteValue.set Tryz.func78 (by kernel_rfl) (by kernel_rfl) (by kernel_rfl) (by kernel_rfl)
  have tO := as_typeOfW
  have mA := as_methodAssignableTo
  have a25 := as_assignableW
  have v25 := as_valueOfW
  have f6 := as_valueOfP
  have f7 := as_typeP
  have mK := as_methodKind
  have mE := as_methodElem
  have mI := as_methodImplements
  have k27 := as_kindP
  have k25 := as_kindW
  have e27 := as_elemP
  have i25 := as_implementsW
  have n8 := as_isNilP ⟨w.heap.size, 0, none⟩ t ((w.alloc (.cells #[.pointer (some t)] 77)).alloc (.cells #[.pointer (some ⟨8, 77, none⟩), .pointer (some ⟨w.heap.size, 0, none⟩), .int .u64 150] 113)) (by simp)
  have hlt : 2 < w.heap.size := by
    rcases Nat.lt_or_ge 2 w.heap.size with h | h
    · exact h
    · simp [World.cell?, Array.getElem?_eq_none h] at hg
  have hg2 : ((w.alloc (.cells #[.pointer (some t)] 77)).alloc (.cells #[.pointer (some ⟨8, 77, none⟩), .pointer (some ⟨w.heap.size, 0, none⟩), .int .u64 150] 113)).cell? ⟨2, 0, none⟩ = some (.iface 136 (.agg #[.pointer (some ⟨8, 47, none⟩)])) := by
    rw [World.cell?_alloc_lt _ _ ⟨2, 0, none⟩ (by simp; omega), World.cell?_alloc_lt _ _ ⟨2, 0, none⟩ hlt]; exact hg
  have htl : t.block < w.heap.size := by
    rcases Nat.lt_or_ge t.block w.heap.size with h | h
    · exact h
    · simp [World.cell?, Array.getElem?_eq_none h] at ht0
  have el := as_elemVP ⟨w.heap.size, 0, none⟩ t (((w.alloc (.cells #[.pointer (some t)] 77)).alloc (.cells #[.pointer (some ⟨8, 77, none⟩), .pointer (some ⟨w.heap.size, 0, none⟩), .int .u64 150] 113)).alloc (.cells #[.pointer (some ⟨8, 77, none⟩), .pointer (some ⟨w.heap.size, 0, none⟩), .int .u64 150] 113)) (by rw [World.cell?_alloc_lt _ _ ⟨w.heap.size, 0, none⟩ (by simp; omega)]; simp)
  have st := as_setW t ⟨w.heap.size + 1 + 1 + 1, 0, none⟩ k old ((((w.alloc (.cells #[.pointer (some t)] 77)).alloc (.cells #[.pointer (some ⟨8, 77, none⟩), .pointer (some ⟨w.heap.size, 0, none⟩), .int .u64 150] 113)).alloc (.cells #[.pointer (some ⟨8, 77, none⟩), .pointer (some ⟨w.heap.size, 0, none⟩), .int .u64 150] 113)).alloc (.cells #[.int .i64 k] 75))
    (by rw [World.cell?_alloc_at _ _ _ _ (by simp)]; rfl) rfl
    (by rw [World.cell?_alloc_lt _ _ t (by simp; omega), World.cell?_alloc_lt _ _ t (by simp; omega), World.cell?_alloc_lt _ _ t (by simp; omega), World.cell?_alloc_lt _ _ t htl]; exact ht0) hst
    (by rw [World.frozen?_alloc_old _ _ t (by simp; omega), World.frozen?_alloc_old _ _ t (by simp; omega), World.frozen?_alloc_old _ _ t (by simp; omega), World.frozen?_alloc_old _ _ t (Nat.ne_of_lt htl)]; exact hf0)
  go_enter Tryz.func49, Tryz.ntmps49
  go_wp2
  refine wp_loop_rounds 1 ?_
  rw [rounds_succ]
  go_wp2
  go_ret
  exact ⟨rfl, rfl⟩
/-- errors.As at a value of that type: the variable is set. -/
theorem as_hit_t (w : World) {k : Int} {r : Nat} {old : Value} {T : TypeId} (hg : w.cell? ⟨2, 0, none⟩ = some (.iface 136 (.agg #[.pointer (some ⟨8, 47, none⟩)]))) (hr : w.heap[r]? = some (.cells [old].toArray T)) :
    Calls Tryz.prog 49 [.iface 75 (.agg [.int .i64 k].toArray), .iface 77 (.pointer (some ⟨r, 0, none⟩))].toArray w fun e w' => e = .returned (.bool true) ∧ Tr w w' [(r, .cells [old].toArray T)] [(r, .cells [Value.int .i64 k].toArray T)] := by
  have hlt := (Array.getElem?_eq_some_iff.1 hr).1
  refine (as_hit k ⟨r, 0, none⟩ old w hg (by simp [World.cell?, hr]) rfl (by simp [World.frozen?, hr])).mono ?_
  rintro e w' ⟨rfl, rfl⟩
  have hx : ∀ (o1 o2 o3 o4 : Obj) (j : Nat), j < w.heap.size → ((((w.alloc o1).alloc o2).alloc o3).alloc o4).heap[j]? = w.heap[j]? := fun o1 o2 o3 o4 j hj => by
    rw [Below.heap_alloc _ _ j (by simp; omega), Below.heap_alloc _ _ j (by simp; omega), Below.heap_alloc _ _ j (by simp; omega), Below.heap_alloc _ _ j hj]
  refine ⟨rfl, rfl, rfl, rfl, ?_, fun j hj hk => ?_, fun p hp => ?_, fun p hp => .inl ?_, by simp [keys]⟩
  · simp [World.setCell]; omega
  · rw [Below.heap_setCell _ _ _ j (fun e => hk (by subst e; simp [keys]))]
    exact hx _ _ _ _ j hj
  · have : p = (r, .cells [Value.int .i64 k].toArray T) := by simpa using hp
    subst this
    have h0 := hx (.cells #[.pointer (some ⟨r, 0, none⟩)] 77) (.cells #[.pointer (some ⟨8, 77, none⟩), .pointer (some ⟨w.heap.size, 0, none⟩), .int .u64 150] 113) (.cells #[.pointer (some ⟨8, 77, none⟩), .pointer (some ⟨w.heap.size, 0, none⟩), .int .u64 150] 113) (.cells #[.int .i64 k] 75) r hlt
    rw [hr] at h0
    simp only [World.setCell, Array.getElem?_modify, if_true]
    rw [h0]
    simp
  · have : p = (r, .cells [Value.int .i64 k].toArray T) := by simpa using hp
    subst this
    simp [keys]
end Go.Proofs.YtcmondhpiahchaaGreatDoor.Jd
