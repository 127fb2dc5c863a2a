/- What slices of numbers, bools and texts hold; what a call leaves. No condition. -/
import Derived.Test.YtodejmindmiknaaDoorJ12
import Derived.Laws.StructEq
namespace Go.Proofs.YtodejmindmiknaaDoor.Jd
set_option linter.unusedSimpArgs false
open Go.RowKit (Below)
set_option linter.unusedVariables false
def eI (x : Int) : List Value := [.int .i64 x]
def eI_u8 (x : Int) : List Value := [.int .u8 x]
def eI_u32 (x : Int) : List Value := [.int .u32 x]
def eB (x : Bool) : List Value := [.bool x]
def eS (x : Str) : List Value := [.string (bs x)]
theorem eI_ok : EncOk eI 1 := ⟨by omega, fun _ => rfl, fun _ => rfl⟩
theorem eI_u8_ok : EncOk eI_u8 1 := ⟨by omega, fun _ => rfl, fun _ => rfl⟩
theorem eI_u32_ok : EncOk eI_u32 1 := ⟨by omega, fun _ => rfl, fun _ => rfl⟩
theorem eB_ok : EncOk eB 1 := ⟨by omega, fun _ => rfl, fun _ => rfl⟩
theorem eS_ok : EncOk eS 1 := ⟨by omega, fun _ => rfl, fun _ => rfl⟩

theorem fresh_segs {w w' : World} {L R Ls : Heap} (h : SH w [] Ls w') (he : Ls = L ++ R) : Fresh w w' L := by
  subst he
  exact h.fresh_out.sub (List.sublist_append_left _ _)

theorem run_eqStr {P : Program} {t : TypeId} {w : World} (d : Nat) (p q : Str) (hU : ∀ w, (underlying t).run P w = .ok .string w) : (Op.equalIn (d + 1) t (.string (bs p)) (.string (bs q))).run P w = .ok (decide (p = q)) w := by
  unfold Op.equalIn
  simp only [Sem.run_bind, hU, Result.andThen_ok]
  simp only [Sem.run_pure]
  rw [beq_toListBytes, bs_toList, bs_toList]
  by_cases h : p = q <;> simp [h]

section
variable {P : Program} {b0 : World} {Mk : List Nat} {N : Nat} {D : List Deferred} {L : Heap} {E : Env} {ty : TypeId}
theorem q_subAll {t : TypeId} {x : Operand} {s : Str} (hU : ∀ w, (underlying t).run P w = .ok .string w) (hx : ev E x = some (.string (bs s)) := by rfl) : RunQ P N D b0 Mk L E (.slice t x none none none) ty (.string (bs s)) := fun a w ha _ => by
  simp [mkO, execOp, ha.eval hx, Instr.sliceAt, Instr.slice, Instr.sliceBounds, hU, bs_extract, bs_size]
theorem q_neS {t t' : TypeId} {x y : Operand} {u v : Value} {b : Bool} (h : ∀ w, (do eqGuard .neq t x y u v; binOp .neq t u v : Sem Value).run P w = .ok (.bool b) w) (hx : ev E x = some u := by rfl) (hy : ev E y = some v := by rfl) : RunQ P N D b0 Mk L E (.binOp .neq t x y t') ty (.bool b) := fun ac w ha _ => by
  have := h w
  simp only [mkO, execOp, ha.eval hx, ha.eval hy]
  simp only [Sem.run_bind] at this ⊢
  rw [this]
  rfl
variable {t t' : TypeId} {x y : Operand} {p q : Int} {k : IntKind}
theorem q_addK (h : k.wrap (p + q) = p + q) (hx : ev E x = some (.int k p) := by rfl) (hy : ev E y = some (.int k q) := by rfl) : RunQ P N D b0 Mk L E (.binOp .add t x y t') ty (.int k (p + q)) := h ▸ q_addW hx hy
theorem q_subK (h : k.wrap (p - q) = p - q) (hx : ev E x = some (.int k p) := by rfl) (hy : ev E y = some (.int k q) := by rfl) : RunQ P N D b0 Mk L E (.binOp .sub t x y t') ty (.int k (p - q)) := h ▸ q_subW hx hy
theorem q_mulK (h : k.wrap (p * q) = p * q) (hx : ev E x = some (.int k p) := by rfl) (hy : ev E y = some (.int k q) := by rfl) : RunQ P N D b0 Mk L E (.binOp .mul t x y t') ty (.int k (p * q)) := h ▸ q_mulW hx hy
end
theorem dec_bd (s : Str) (i : Nat) : (dec s i).1 < 2097152 := by
  have hb : ∀ k, ((bs s).get! k).toNat < 256 := fun k => UInt8.toNat_lt _
  unfold dec Utf8.decode
  simp only
  have h0 := hb (i + 0)
  have h1 := hb (i + 1)
  have h2 := hb (i + 2)
  have h3 := hb (i + 3)
  repeat' split
  all_goals (simp only [Utf8.runeError] at *; omega)
end Go.Proofs.YtodejmindmiknaaDoor.Jd
