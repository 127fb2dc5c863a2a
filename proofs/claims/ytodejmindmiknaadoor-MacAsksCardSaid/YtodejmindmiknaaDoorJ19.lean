/- Arrays told as lists of numbers; texts and bytes; copy. No condition. -/
import Derived.Test.YtodejmindmiknaaDoorJ18
import Derived.Lib.ConvBytes
import Derived.Laws.BytesString
namespace Go.Proofs.YtodejmindmiknaaDoor.Jd
set_option linter.unusedSimpArgs false
open Go.RowKit (Below)
set_option linter.unusedVariables false
def aI (k : IntKind) (xs : List Int) : List Value := xs.map (Value.int k)
theorem aI_length {k : IntKind} {xs : List Int} : (aI k xs).length = xs.length := by simp [aI]
theorem aI_get {k : IntKind} {xs : List Int} {m : Nat} (h : m < xs.length) : (aI k xs)[m]? = some (.int k (xs.getD m default)) := by
  simp [aI, h, List.getD]
theorem setL_aI {k : IntKind} {v : Int} : ∀ {xs : List Int} {m : Nat}, setL (aI k xs) m [.int k v] = aI k (xs.set m v)
  | [], m => by simp [aI, setL]
  | x :: r, 0 => by cases r <;> simp [aI, setL]
  | x :: r, m + 1 => by
    have := @setL_aI k v r m
    simp only [aI, List.map_cons, setL, List.set_cons_succ] at this ⊢
    rw [this]
theorem setL_all : ∀ {l us : List Value}, us.length = l.length → setL l 0 us = us
  | [], [], _ => by simp [setL]
  | [], _ :: _, h => by simp at h
  | _ :: _, [], h => by simp at h
  | c :: r, u :: us, h => by
    simp only [setL]
    rw [setL_all (by simpa using h)]
theorem seg_all : ∀ {l : List Value} {n : Nat}, l.length = n → seg l 0 n = some l := by
  have hs : ∀ (l : List Value) (c : Value) (k n : Nat), seg (c :: l) (k + 1) n = seg l k n := by
    intro l c k n
    induction n generalizing k with
    | zero => rfl
    | succ n ih => simp only [seg, nth]; rw [ih]
  intro l
  induction l with
  | nil => intro n h; subst h; rfl
  | cons c r ih =>
    intro n h
    subst h
    simp only [List.length_cons, seg, nth]
    rw [hs, ih rfl]
theorem allOne_aI {k : IntKind} : ∀ {xs : List Int}, allOne (aI k xs) = true
  | [] => rfl
  | x :: r => by
    have := @allOne_aI k r
    simp only [aI, List.map_cons, allOne] at this ⊢
    rw [this]; rfl
section
variable {P : Program} {rd : Option Nat} {b0 : World} {Mk : List Nat} {N : Nat} {D : List Deferred} {ops : Array Oper} {L V : Heap} {E : Env} {T : Act → World → Prop}
variable {op : Op} {ty : TypeId} {pos : String} {after : Array Edge} {d : Nat}
theorem q_idxI {e t : TypeId} {len n : Nat} {x y : Operand} {k : IntKind} {p : Int} {r o : Nat} (m j : Nat) (hU : ∀ w, (underlying t).run P w = .ok (.array len e) w) (hS : ∀ w, (sizeOf e).run P w = .ok n w) (hx : ev E x = some (.pointer (some ⟨r, o, none⟩)) := by rfl) (hy : ev E y = some (.int k p) := by rfl) (hi : p = (m : Int) := by first | rfl | omega) (hj : j = o + m * n := by omega) (hm : m < len := by omega) :
    RunQ P N D b0 Mk L E (.indexAddr t x y) ty (.pointer (some ⟨r, j, none⟩)) := by
  subst hj
  exact q_idxP hU hS hx hy hi hm
theorem q_loadI {t : TypeId} {x : Operand} {r m : Nat} {k : IntKind} {xs : List Int} {T : TypeId} {f : Nat × Nat} (hA : ∀ w, (isAgg t).run P w = .ok false w) (hm : m < xs.length) (hx : ev E x = some (.pointer (some ⟨r, m, none⟩)) := by rfl)
    (hL : (r, Obj.cells (aI k xs).toArray T f) ∈ L := by repeat (first | exact List.mem_cons_self | apply List.mem_cons_of_mem | apply List.mem_append_right)) :
    RunQ P N D b0 Mk L E (.load t x) ty (.int k (xs.getD m default)) := q_load hA hx hL (by rw [nth_eq, aI_get hm])
theorem q_loadIB {t : TypeId} {x : Operand} {r m : Nat} {k : IntKind} {xs : List Int} {T : TypeId} {f : Nat × Nat} (hA : ∀ w, (isAgg t).run P w = .ok false w) (hm : m < xs.length) (hb : b0.heap[r]? = some (Obj.cells (aI k xs).toArray T f)) (hx : ev E x = some (.pointer (some ⟨r, m, none⟩)) := by rfl) (hM : r ∉ Mk := by simp) :
    RunQ P N D b0 Mk L E (.load t x) ty (.int k (xs.getD m default)) := q_loadB hA hb hx hM (by rw [nth_eq, aI_get hm])
theorem q_loadAr {t : TypeId} {x : Operand} {r n : Nat} {k : IntKind} {xs : List Int} {T : TypeId} {f : Nat × Nat} (hA : ∀ w, (isAgg t).run P w = .ok true w) (hS : ∀ w, (sizeOf t).run P w = .ok n w) (hn : xs.length = n) (hx : ev E x = some (.pointer (some ⟨r, 0, none⟩)) := by rfl)
    (hL : (r, Obj.cells (aI k xs).toArray T f) ∈ L := by repeat (first | exact List.mem_cons_self | apply List.mem_cons_of_mem | apply List.mem_append_right)) :
    RunQ P N D b0 Mk L E (.load t x) ty (.agg (aI k xs).toArray) := q_loadA hA hS hx hL (seg_all (by rw [aI_length, hn]))
theorem w_storeI {t : TypeId} {x y : Operand} {r m : Nat} {k : IntKind} {v : Int} {xs : List Int} {T : TypeId} {L' : Heap} (hS : ∀ w, (sizeOf t).run P w = .ok 1 w) (hm : m < xs.length) (hx : ev E x = some (.pointer (some ⟨r, m, none⟩)) := by rfl) (hy : ev E y = some (.int k v) := by rfl)
    (hR : Repl r (.cells (aI k xs).toArray T) (.cells (aI k (xs.set m v)).toArray T) L L' := by repeat (first | exact Repl.head | apply Repl.tail | apply Repl.app)) :
    RunW P N D b0 Mk L E (.store t x y) ty L' .skip := w_store (l := aI k xs) (l' := aI k (xs.set m v)) hS hx hy hR setL_aI rfl rfl (by simp [aI_length, cellsL]; omega)
theorem w_storeAr {t : TypeId} {x y : Operand} {r n : Nat} {k k' : IntKind} {xs ys : List Int} {T : TypeId} {L' : Heap} (hS : ∀ w, (sizeOf t).run P w = .ok n w) (hn : ys.length = n) (hn' : xs.length = n) (hx : ev E x = some (.pointer (some ⟨r, 0, none⟩)) := by rfl) (hy : ev E y = some (.agg (aI k ys).toArray) := by rfl)
    (hR : Repl r (.cells (aI k' xs).toArray T) (.cells (aI k ys).toArray T) L L' := by repeat (first | exact Repl.head | apply Repl.tail | apply Repl.app)) :
    RunW P N D b0 Mk L E (.store t x y) ty L' .skip := w_store (l := aI k' xs) (l' := aI k ys) hS hx hy hR (by simp only [cellsL]; exact setL_all (by simp [aI_length, hn, hn'])) (by simp [cellsL, aI_length, hn]) (by simp only [cellsL]; exact allOne_aI) (by simp [cellsL, aI_length, hn, hn'])
theorem q_idxAI {e t : TypeId} {len : Nat} {x y : Operand} {k k' : IntKind} {p : Int} {xs : List Int} {m : Nat} (hU : ∀ w, (underlying t).run P w = .ok (.array len e) w) (hS : ∀ w, (sizeOf e).run P w = .ok 1 w) (hA : ∀ w, (isAgg e).run P w = .ok false w) (hx : ev E x = some (.agg (aI k xs).toArray) := by rfl) (hy : ev E y = some (.int k' p) := by rfl) (hi : p = (m : Int) := by first | rfl | omega) (hm : m < len := by omega) (hl : xs.length = len := by omega) :
    RunQ P N D b0 Mk L E (.index t x y) ty (.int k (xs.getD m default)) := fun a w ha _ => by
  subst hi
  have hg := aI_get (k := k) (xs := xs) (m := m) (by omega)
  simp [mkO, execOp, ha.eval hx, ha.eval hy, Instr.index, asIntOf, hU, hS, hm, part, hA, hg]
/-- A slice of an array that is pointed to. -/
theorem q_slicePlo {t e : TypeId} {len n : Nat} {x y : Operand} {k : IntKind} {p : Int} {r o : Nat} (l j c : Nat) (hU : ∀ w, (underlying t).run P w = .ok (.array len e) w) (hS : ∀ w, (sizeOf e).run P w = .ok n w) (hl : l < len) (hj : j = o + l * n) (hc : c = len - l) (hi : p = (l : Int)) (hx : ev E x = some (.pointer (some ⟨r, o, none⟩)) := by rfl) (hy : ev E y = some (.int k p) := by rfl) :
    RunQ P N D b0 Mk L E (.slice t x (some y) none none) ty (.slice (some ⟨r, j, none⟩) c c) := fun a w ha _ => by
  subst hi hj hc
  have h2 : ¬ len = l := by omega
  simp [mkO, execOp, ha.eval hx, ha.eval hy, Instr.sliceAt, Instr.sliceBounds, Instr.sliceBound, asIntOf, hU, hS, Instr.sureAddr, h2, addr_add]
  intro h; omega
theorem q_slicePhi {t e : TypeId} {len n : Nat} {x y : Operand} {k : IntKind} {p : Int} {r o : Nat} (h : Nat) (hU : ∀ w, (underlying t).run P w = .ok (.array len e) w) (hS : ∀ w, (sizeOf e).run P w = .ok n w) (hh : h ≤ len) (h0 : 0 < len) (hi : p = (h : Int)) (hx : ev E x = some (.pointer (some ⟨r, o, none⟩)) := by rfl) (hy : ev E y = some (.int k p) := by rfl) :
    RunQ P N D b0 Mk L E (.slice t x none (some y) none) ty (.slice (some ⟨r, o, none⟩) h len) := fun a w ha _ => by
  subst hi
  have h2 : ¬ len = 0 := by omega
  simp [mkO, execOp, ha.eval hx, ha.eval hy, Instr.sliceAt, Instr.sliceBounds, Instr.sliceBound, asIntOf, hU, hS, Instr.sureAddr, h2, addr_add]
  intro h; omega
theorem q_slicePall {t e : TypeId} {len n : Nat} {x : Operand} {r o : Nat} (hU : ∀ w, (underlying t).run P w = .ok (.array len e) w) (hS : ∀ w, (sizeOf e).run P w = .ok n w) (h0 : 0 < len) (hx : ev E x = some (.pointer (some ⟨r, o, none⟩)) := by rfl) :
    RunQ P N D b0 Mk L E (.slice t x none none none) ty (.slice (some ⟨r, o, none⟩) len len) := fun a w ha _ => by
  have h2 : ¬ len = 0 := by omega
  simp [mkO, execOp, ha.eval hx, Instr.sliceAt, Instr.sliceBounds, hU, hS, Instr.sureAddr, addr_add]
theorem q_notI {t : TypeId} {x : Operand} {k : IntKind} {p : Int} (hx : ev E x = some (.int k p) := by rfl) (hk : k.signed = false := by rfl) : RunQ P N D b0 Mk L E (.unOp .xor t x) ty (.int k (xorI k k.max p)) := fun a w ha _ => by
  simp [mkO, execOp, ha.eval hx, Op.unary, Op.intBits, hk, xorI]
theorem q_negI {t : TypeId} {x : Operand} {k : IntKind} {p : Int} (hx : ev E x = some (.int k p) := by rfl) : RunQ P N D b0 Mk L E (.unOp .neg t x) ty (.int k (k.wrap (0 - p))) := fun a w ha _ => by
  simp [mkO, execOp, ha.eval hx, Op.unary, Op.intArith]
/-- An array, built. -/
def PlacesA (P : Program) (t : TypeId) (pl : List (Nat × Nat)) : Prop :=
  ∃ len e n, (∀ w, (underlying t).run P w = .ok (.array len e) w) ∧ (∀ w, (sizeOf e).run P w = .ok n w) ∧ ∀ (i : Nat) (q : Nat × Nat), pl[i]? = some q → q = (i * n, n)
theorem q_buildA {t : TypeId} {z : Value} {pl : List (Nat × Nat)} {parts : List (Nat × Operand)} {ps : List (Nat × List Value)} {cs : List Value} (hz : ∀ w, (zeroValue t).run P w = .ok z w) (hp : PlacesA P t pl) (hv : evp E parts = some ps := by rfl)
    (hf : fillL pl (cellsL z) ps = some cs := by rfl) : RunQ P N D b0 Mk L E (.build t parts.toArray) ty (.agg cs.toArray) := fun a w ha _ => by
  obtain ⟨len, e, n, hU, hS, hq⟩ := hp
  have h1 := ha.evalp hv
  subst h1
  have := fill_fillL pl (fun i => some (i * n, n)) (fun i q h => by rw [hq i q h]) (parts.map fun p => (p.1, a.eval p.2)) (cellsL z) cs (by rw [List.map_map]; exact hf)
  simp only [mkO, execOp, Instr.build, Sem.run_bind, hz, hU, hS, Result.andThen_ok]
  have e : (Array.map (fun x => match x with | (i, x) => (i, a.eval x)) parts.toArray).toList = parts.map fun p => (p.1, a.eval p.2) := by simp
  simp only [Result.andThen_ok, cellsL_eq, e, this, Sem.run_pure]
/-- []byte(s), told as a slice of the call's own. -/
def toI (s : Str) : List Int := s.map fun b => (b.toNat : Int)
theorem toI_length {s : Str} : (toI s).length = s.length := by simp [toI]
theorem flat_u8 : ∀ (xs : List Int), flat eI_u8 xs = aI .u8 xs
  | [] => rfl
  | x :: r => by
    have := flat_u8 r
    simp only [flat, aI, List.map_cons, List.flatten_cons] at this ⊢
    rw [this]; rfl
theorem e_bytes {t e s' : TypeId} {u : TypeDesc} {x : Operand} {s : Str} (hs : P.underlying s' = some u) (hU : P.underlying t = some (.slice e)) (hE : P.underlying e = some (.int .u8)) (hx : ev E x = some (.string (bs s)) := by rfl) :
    RunM P N D b0 Mk L E (.convert s' t x) ty [] (Option Addr × Nat × Heap) (fun q => .value (.slice q.1 (toI s).length q.2.1)) (fun q => q.2.2) (fun q => OwnB eI_u8 1 e q.1 q.2.1 q.2.2 (toI s)) := fun a w ha hw => by
  have hr := Lib.run_convert_string_bytes (P := P) w s' t e (bs s) hs hU hE
  have hb : (bs s).size = s.length := bs_size s
  have hge : s.length ≤ grownCap w s.length 0 e := by simpa using grownCap_ge w s.length 0 e
  have hbd : (bs s).data.toList = s := by simp [bs]
  have hcl : (Lib.bytesCells w e (bs s)).toList = aI .u8 (toI s) ++ List.replicate (grownCap w s.length 0 e - s.length) (.int .u8 0) := by
    simp [Lib.bytesCells, hb, aI, toI, hbd, List.map_map]
  have hsz : (Lib.bytesCells w e (bs s)).size = grownCap w s.length 0 e := by
    rw [← Array.length_toList, hcl]; simp [aI_length, toI_length]; omega
  refine ⟨(some ⟨w.heap.size, 0, none⟩, grownCap w s.length 0 e, [(w.heap.size, .cells (Lib.bytesCells w e (bs s)) e ((Lib.bytesCells w e (bs s)).size, (Lib.bytesCells w e (bs s)).size + 1))]), Lib.bytesWorld w e (bs s), ?_, ?_, ?_⟩
  · simp [mkO, execOp, ha.eval hx, hr, hb, toI_length]
  · refine ⟨rfl, rfl, rfl, ?_, fun k hk _ => Lib.bytesWorld_at_old w e _ k hk, fun p hp => ?_, fun p hp => .inr ?_, by simp [keys]⟩
    · rw [Lib.bytesWorld_size]; omega
    · have : p = (w.heap.size, .cells (Lib.bytesCells w e (bs s)) e ((Lib.bytesCells w e (bs s)).size, (Lib.bytesCells w e (bs s)).size + 1)) := by simpa using hp
      subst this
      exact Lib.bytesWorld_at_new w e _
    · have : p = (w.heap.size, .cells (Lib.bytesCells w e (bs s)) e ((Lib.bytesCells w e (bs s)).size, (Lib.bytesCells w e (bs s)).size + 1)) := by simpa using hp
      subst this
      exact Nat.le_refl _
  · refine OwnB.fullF (.inr (Nat.le_refl _)) (by simpa [toI_length] using hge) (by simp [hsz]) ?_
    rw [hcl, flat_u8, Nat.mul_one, ← aI_length (k := .u8)]
    exact List.take_left' rfl
theorem JL_bytes {t e s' : TypeId} {u : TypeDesc} {x : Operand} {s : Str} {l : List Oper} (hs : P.underlying s' = some u) (hU : P.underlying t = some (.slice e)) (hE : P.underlying e = some (.int .u8)) (hx : ev E x = some (.string (bs s)) := by rfl) (hd : Nat.blt d N = true := by rfl)
    (k : ∀ a2 c2 B2, OwnB eI_u8 1 e a2 c2 B2 (toI s) → JL P rd b0 Mk N D ops (B2 ++ L) ((d, .slice a2 (toI s).length c2) :: E) l T) :
    JL P rd b0 Mk N D ops L E ({ dst := some d, op := .convert s' t x, type := ty, pos := pos, after := after, guard := none } :: l) T :=
  JL_e (List.Perm.refl _) (e_bytes hs hU hE hx) rfl hd (fun q hq => k q.1 q.2.1 q.2.2 hq)
theorem JD_bytes {t e s' : TypeId} {u : TypeDesc} {x : Operand} {s : Str} {l : List (Bool × Oper)} (hs : P.underlying s' = some u) (hU : P.underlying t = some (.slice e)) (hE : P.underlying e = some (.int .u8)) (hx : ev E x = some (.string (bs s)) := by rfl) (hd : Nat.blt d N = true := by rfl)
    (k : ∀ a2 c2 B2, OwnB eI_u8 1 e a2 c2 B2 (toI s) → JD P rd b0 Mk N D ops L (B2 ++ V) ((d, .slice a2 (toI s).length c2) :: E) l T) :
    JD P rd b0 Mk N D ops L V E ((false, { dst := some d, op := .convert s' t x, type := ty, pos := pos, after := after, guard := none }) :: l) T :=
  JD_e (List.Perm.refl _) (e_bytes hs hU hE hx) rfl hd (fun q hq => k q.1 q.2.1 q.2.2 hq)
/-- string(l). -/
def toS (xs : List Int) : Str := xs.map fun x => UInt8.ofNat x.toNat
theorem toS_length {xs : List Int} : (toS xs).length = xs.length := by simp [toS]
theorem toS_toI : ∀ (s : Str), toS (toI s) = s
  | [] => rfl
  | b :: r => by
    have := toS_toI r
    simp only [toS, toI, List.map_cons] at this ⊢
    rw [this]
    simp
theorem foldl_push : ∀ (xs : List Int) (r : ByteArray), xs.foldl (fun r n => r.push (UInt8.ofNat n.toNat)) r = r ++ bs (toS xs)
  | [], r => by simp [toS, bs, ByteArray.ext_iff]
  | x :: xs, r => by
    rw [List.foldl_cons, foldl_push xs]
    simp [toS, bs, ByteArray.ext_iff, ByteArray.push]
theorem q_str {t e s' : TypeId} {x : Operand} {a : Option Addr} {n c : Nat} {xs : List Int} (hs : P.underlying s' = some .string) (hU : P.underlying t = some (.slice e)) (hE : P.underlying e = some (.int .u8)) (hJ : SlJ b0 Mk L eI_u8 1 a xs) (hx : ev E x = some (.slice a n c) := by rfl) (hn : xs.length = n := by rfl) :
    RunQ P N D b0 Mk L E (.convert t s' x) ty (.string (bs (toS xs))) := fun ac w ha hw => by
  subst hn
  have hr : ∀ v, (Conv.bytesToString (.slice a xs.length c)).run P w = .ok v w → (execOp ac.eval (mkO (.convert t s' x) ty)).run P w = .ok (.value v) w := fun v hv => by
    simp [mkO, execOp, ha.eval hx, run_convert_bytes_string w t s' e a xs.length c hU hE hs, hv]
  apply hr
  rcases a with _ | ad
  · have : xs = [] := Sl.none (hJ w hw)
    subst this
    simp [Conv.bytesToString, toS, bs]
    rfl
  · have hl : (loadCells ad xs.length).run P w = .ok (xs.map (Value.int .u8)).toArray w := by
      have h1 := Sl.cells eI_u8_ok (hJ w hw) xs.length (Nat.le_refl _)
      rw [List.take_length, flat_u8] at h1
      have := run_loadCells_list (P := P) w ad (aI .u8 xs) h1
      rw [aI_length] at this
      exact this
    rw [run_bytesToString w ad xs.length c xs hl, foldl_push]
    simp
/-- copy between cells that are known. -/
theorem e_copyC {t e : TypeId} {x y : Operand} {r r' o o' n n' c c' m : Nat} {l l' us src : List Value} {T T' : TypeId} {f' : Nat × Nat} (hU : ∀ w, (underlying t).run P w = .ok (.slice e) w) (hS : ∀ w, (sizeOf e).run P w = .ok 1 w) (hx : ev E x = some (.slice (some ⟨r, o, none⟩) n c)) (hy : ev E y = some (.slice (some ⟨r', o', none⟩) n' c'))
    (hL : (r, Obj.cells l.toArray T) ∈ L) (hm : (r', Obj.cells src.toArray T' f') ∈ L) (hn : Nat.min n' n = m) (hseg : seg src o' m = some us) (hl : setL l o us = l') (ho : allOne us = true) (hk : Nat.ble (o + us.length) l.length = true) :
    RunM P N D b0 Mk L E (.call { callee := .builtin .copy, args := #[x, y], argTypes := #[t, t] }) ty [(r, .cells l.toArray T)] Unit (fun _ => .value (.int .i64 m)) (fun _ => [(r, .cells l'.toArray T)]) (fun _ => True) := fun a w ha hw => by
  obtain ⟨h1, h2⟩ := seg_spec src m o' us hseg
  have hld : (loadCells ⟨r', o', none⟩ m).run P w = .ok us.toArray w := by
    rw [← h1]
    exact run_loadCells_list w ⟨r', o', none⟩ us fun j v hj => by
      rw [addr_add]
      exact hw.cell hm (h2 j v hj)
  have hw0 : w.heap[r]? = some (.cells l.toArray T (0, 0)) := hw.own _ hL
  obtain ⟨w', g1, g2, g3, g4, g5, g6, g7⟩ := run_storeCells (P := P) (r := r) (k := o) (T := T) us l 0 w hw0 ho (by simpa using hk)
  subst hl
  refine ⟨(), w', ?_, ⟨g5, g6, g7, by omega, fun j _ hj => g3 j (fun e => hj (by subst e; simp [keys])), fun p hp => ?_, fun p hp => .inl ?_, by simp [keys]⟩, trivial⟩
  · simp [mkO, execOp, resolve, invoke, builtin, ha.eval hx, ha.eval hy, Builtin.copy_, hU, hS, Builtin.lenOf, hn, Builtin.firstCells, hld, g1, goInt]
  · have : p = (r, .cells (setL l (o + 0) us).toArray T) := by simpa using hp
    subst this
    simpa using g2
  · have : p = (r, .cells (setL l (o + 0) us).toArray T) := by simpa using hp
    subst this
    simp [keys]
theorem JL_copyC {t e : TypeId} {x y : Operand} {r r' o o' n n' c c' m : Nat} {l l' us src : List Value} {T' T2 : TypeId} {f' : Nat × Nat} {R : Heap} {lo : List Oper} (hU : ∀ w, (underlying t).run P w = .ok (.slice e) w) (hS : ∀ w, (sizeOf e).run P w = .ok 1 w)
    (hL : List.Perm L ((r, Obj.cells l.toArray T2) :: R)) (hm : (r', Obj.cells src.toArray T' f') ∈ L) (hx : ev E x = some (.slice (some ⟨r, o, none⟩) n c) := by rfl) (hy : ev E y = some (.slice (some ⟨r', o', none⟩) n' c') := by rfl) (hn : Nat.min n' n = m := by rfl) (hseg : seg src o' m = some us := by rfl) (hl : setL l o us = l' := by rfl) (ho : allOne us = true := by rfl) (hk : Nat.ble (o + us.length) l.length = true := by rfl) (hd : Nat.blt d N = true := by rfl)
    (k : JL P rd b0 Mk N D ops ((r, Obj.cells l'.toArray T2) :: R) ((d, .int .i64 m) :: E) lo T) :
    JL P rd b0 Mk N D ops L E ({ dst := some d, op := .call { callee := .builtin .copy, args := #[x, y], argTypes := #[t, t] }, type := ty, pos := pos, after := after, guard := none } :: lo) T :=
  JL_e (H := [(r, Obj.cells l.toArray T2)]) hL (e_copyC hU hS hx hy (hL.mem_iff.2 List.mem_cons_self) hm hn hseg hl ho hk) rfl hd (fun _ _ => k)
theorem JD_copyC {t e : TypeId} {x y : Operand} {r r' o o' n n' c c' m : Nat} {l l' us src : List Value} {T' T2 : TypeId} {f' : Nat × Nat} {R : Heap} {lo : List (Bool × Oper)} (hU : ∀ w, (underlying t).run P w = .ok (.slice e) w) (hS : ∀ w, (sizeOf e).run P w = .ok 1 w)
    (hV : List.Perm V ((r, Obj.cells l.toArray T2) :: R)) (hm : (r', Obj.cells src.toArray T' f') ∈ V) (hx : ev E x = some (.slice (some ⟨r, o, none⟩) n c) := by rfl) (hy : ev E y = some (.slice (some ⟨r', o', none⟩) n' c') := by rfl) (hn : Nat.min n' n = m := by rfl) (hseg : seg src o' m = some us := by rfl) (hl : setL l o us = l' := by rfl) (ho : allOne us = true := by rfl) (hk : Nat.ble (o + us.length) l.length = true := by rfl) (hd : Nat.blt d N = true := by rfl)
    (k : JD P rd b0 Mk N D ops L ((r, Obj.cells l'.toArray T2) :: R) ((d, .int .i64 m) :: E) lo T) :
    JD P rd b0 Mk N D ops L V E ((false, { dst := some d, op := .call { callee := .builtin .copy, args := #[x, y], argTypes := #[t, t] }, type := ty, pos := pos, after := after, guard := none }) :: lo) T :=
  JD_e (H := [(r, Obj.cells l.toArray T2)]) hV (e_copyC hU hS hx hy (List.mem_append_left _ (hV.mem_iff.2 List.mem_cons_self)) (List.mem_append_left _ hm) hn hseg hl ho hk) rfl hd (fun _ _ => k)
/-- copy(a[:], s): a text into an array. -/
theorem setL_pre : ∀ (us l : List Value), us.length ≤ l.length → setL l 0 us = us ++ l.drop us.length
  | [], l, _ => by cases l <;> simp [setL]
  | u :: us, [], h => by simp at h
  | u :: us, c :: r, h => by
    simp only [setL]
    rw [setL_pre us r (by simpa using h)]
    simp
theorem e_copyT {t e s' : TypeId} {x y : Operand} {r n c : Nat} {s : Str} {xs : List Int} {T : TypeId} (hU : ∀ w, (underlying t).run P w = .ok (.slice e) w) (hS : ∀ w, (sizeOf e).run P w = .ok 1 w) (hx : ev E x = some (.slice (some ⟨r, 0, none⟩) n c)) (hy : ev E y = some (.string (bs s)))
    (hL : (r, Obj.cells (aI .u8 xs).toArray T) ∈ L) (hn : xs.length = n) :
    RunM P N D b0 Mk L E (.call { callee := .builtin .copy, args := #[x, y], argTypes := #[t, s'] }) ty [(r, .cells (aI .u8 xs).toArray T)] Unit (fun _ => .value (.int .i64 (min s.length n : Nat))) (fun _ => [(r, .cells (aI .u8 (toI (s.take n) ++ xs.drop s.length)).toArray T)]) (fun _ => True) := fun a w ha hw => by
  subst hn
  have hw0 : w.heap[r]? = some (.cells (aI .u8 xs).toArray T (0, 0)) := hw.own _ hL
  have hbs : (bs s).size = s.length := bs_size s
  have hmin : Nat.min s.length xs.length = min s.length xs.length := rfl
  have hc : (Builtin.firstCells 1 (min s.length xs.length) (.string (bs s))).run P w = .ok (aI .u8 (toI (s.take xs.length))).toArray w := by
    have hd : ((bs s).extract 0 (min s.length xs.length)).data.toList = s.take xs.length := by
      simp [bs]
      omega
    have : (((bs s).extract 0 (min s.length xs.length)).data.map fun b => Value.int .u8 b.toNat) = (aI .u8 (toI (s.take xs.length))).toArray := by
      apply Array.ext'
      rw [Array.toList_map, hd]
      simp [aI, toI, List.map_map]
      rfl
    simp only [Builtin.firstCells]
    rw [this]
    simp
  obtain ⟨w', g1, g2, g3, g4, g5, g6, g7⟩ := run_storeCells (P := P) (r := r) (k := 0) (T := T) (aI .u8 (toI (s.take xs.length))) (aI .u8 xs) 0 w hw0 allOne_aI (by simp [aI_length, toI_length]; omega)
  have hset : setL (aI .u8 xs) (0 + 0) (aI .u8 (toI (s.take xs.length))) = aI .u8 (toI (s.take xs.length) ++ xs.drop s.length) := by
    rw [Nat.zero_add, setL_pre _ _ (by simp [aI_length, toI_length]; omega)]
    have hl : (aI .u8 (toI (s.take xs.length))).length = min xs.length s.length := by rw [aI_length, toI_length, List.length_take]
    rw [hl]
    simp only [aI, List.map_append, List.map_drop]
    congr 1
    rcases Nat.le_total xs.length s.length with h | h
    · rw [Nat.min_eq_left h, List.drop_of_length_le (by simp), List.drop_of_length_le (by simpa using h)]
    · rw [Nat.min_eq_right h]
  rw [hset] at g2
  refine ⟨(), w', ?_, ⟨g5, g6, g7, by omega, fun j _ hj => g3 j (fun e => hj (by subst e; simp [keys])), fun p hp => ?_, fun p hp => .inl ?_, by simp [keys]⟩, trivial⟩
  · simp [mkO, execOp, resolve, invoke, builtin, ha.eval hx, ha.eval hy, Builtin.copy_, hU, hS, Builtin.lenOf, hbs, hmin, hc, g1, goInt]
  · have : p = (r, .cells (aI .u8 (toI (s.take xs.length) ++ xs.drop s.length)).toArray T) := by simpa using hp
    subst this
    exact g2
  · have : p = (r, .cells (aI .u8 (toI (s.take xs.length) ++ xs.drop s.length)).toArray T) := by simpa using hp
    subst this
    simp [keys]
theorem JL_copyT {t e s' : TypeId} {x y : Operand} {r n c : Nat} {s : Str} {xs : List Int} {T2 : TypeId} {R : Heap} {lo : List Oper} (hU : ∀ w, (underlying t).run P w = .ok (.slice e) w) (hS : ∀ w, (sizeOf e).run P w = .ok 1 w) (hL : List.Perm L ((r, Obj.cells (aI .u8 xs).toArray T2) :: R)) (hn : xs.length = n)
    (hx : ev E x = some (.slice (some ⟨r, 0, none⟩) n c) := by rfl) (hy : ev E y = some (.string (bs s)) := by rfl)
    (k : JL P rd b0 Mk N D ops ((r, Obj.cells (aI .u8 (toI (s.take n) ++ xs.drop s.length)).toArray T2) :: R) ((d, .int .i64 (min s.length n : Nat)) :: E) lo T) (hd : Nat.blt d N = true := by rfl) :
    JL P rd b0 Mk N D ops L E ({ dst := some d, op := .call { callee := .builtin .copy, args := #[x, y], argTypes := #[t, s'] }, type := ty, pos := pos, after := after, guard := none } :: lo) T :=
  JL_e (H := [(r, Obj.cells (aI .u8 xs).toArray T2)]) hL (e_copyT hU hS hx hy (hL.mem_iff.2 List.mem_cons_self) hn) rfl hd (fun _ _ => k)
/-- An operation in a drawn region, taken in one of several orders, that leaves the world as it is. -/
theorem JO_q {v : Value} {l : List Oper} {n f : Nat} {listed : Array Bool} {i : Nat} (hi : l[i]? = some { dst := some d, op := op, type := ty, pos := pos, after := after, guard := none }) (h : RunQ P N D b0 Mk L E op ty v) (hn : notDeferOp op = true := by rfl) (hd : Nat.blt d N = true := by rfl)
    (k : JG P rd b0 Mk N D l n f (listed.setIfInBounds i true) L V ((d, v) :: E) T) : JO P rd b0 Mk N D l n f listed L V E T i :=
  JO_n (X := Unit) (v := fun _ => v) (B := fun _ => []) hi (fun a w ha hw => ⟨(), w, h a w ha hw, Fresh.of_ext (Below.refl _ _)⟩) hn hd fun _ => k
theorem q_convS {t t' : TypeId} {x : Operand} {s : Str} (hs : ∀ w, (underlying t).run P w = .ok .string w) (hd : ∀ w, (underlying t').run P w = .ok .string w) (hx : ev E x = some (.string (bs s)) := by rfl) : RunQ P N D b0 Mk L E (.convert t t' x) ty (.string (bs s)) := fun a w ha _ => by
  simp [mkO, execOp, ha.eval hx, convert, hs, hd]
end
end Go.Proofs.YtodejmindmiknaaDoor.Jd
