/- Part of the proofs of this seat: walks and plain facts. No condition. -/
import Derived.Test.YtbooaoddioibeaaGreatDoorS0
import Derived.Test.YtbooaoddioibeaaGreatDoorS2
import Derived.Test.YtbooaoddioibeaaGreatDoorS1
namespace Go.Proofs.YtbooaoddioibeaaGreatDoor.Jd
open Go.Proofs.Tryz
open Go.Proofs
open Go.RowKit (Below)
set_option linter.unusedVariables false
set_option linter.unusedSimpArgs false
section
variable {c : Dr} {b0 : World} {Mk : List Nat} {ρ : Au} {D : List Deferred} {s : St} {a : Act} {w : World} {ty : TypeId} {v : V} {rs : List RE}

theorem Ca {u v : V} {rs : List RE} : qv u = some (v, rs) ↔ u = v ∧ [] = rs := by simp [qv]
theorem Gk.evs (he : Gk ρ D s a) {l : List Operand} {k : List V} (h : Mx s.E l = some k) : l.map a.eval = Ac ρ k := he.h.evals (cU he.w h)

theorem iG (he : Gk ρ D s a) {x : Operand} (h : nY s x = some (v, rs)) : a.eval x = v.den ρ ∧ v.lt s.n := by
  simp only [nY, Ab, Ca] at h;obtain ⟨u, hu, rfl, rfl⟩ := h;exact ⟨he.ev hu, he.lt hu⟩
theorem vN (he : Gk ρ D s a) {b x y : Operand} (h : uS s b x y = some (v, rs)) : Yw c.P ρ s.n a w (.pick b x y) ty v := by
  unfold uS at h;split at h
  · rename_i b' x' y' hb hx hy
    simp only [Ca] at h;obtain ⟨rfl, rfl⟩ := h;have e1 := he.ev hb;have e2 := he.ev hx;have e3 := he.ev hy;have l2 := he.lt hx;have l3 := he.lt hy;cases b'
    · exact ⟨by simp [Bq, execOp, asBool, e1, e3, V.den], l3⟩
    · exact ⟨by simp [Bq, execOp, asBool, e1, e2, V.den], l2⟩
  · cases h
theorem T7 (he : Gk ρ D s a) {op : UnOp} {t : TypeId} {x : Operand} (h : qUn c s op x = some (v, rs)) : Yw c.P ρ s.n a w (.unOp op t x) ty v := by
  unfold qUn at h;split at h
  · rename_i u hu
    simp only [Ab, Ca] at h;obtain ⟨r, hr, rfl, rfl⟩ := h;have e1 := he.ev hu;refine ⟨?_, by simp [V.lt]⟩;simp [Bq, execOp, e1, V.den, Dd hr w]
  · cases h
theorem qO (he : Gk ρ D s a) {t : TypeId} {x : Operand} (h : kU c s t x = some (v, rs)) : Yw c.P ρ s.n a w (.makeInterface t x) ty v := by
  simp only [kU, Ab] at h;obtain ⟨u, hu, d, hd, h⟩ := h;have e1 := he.ev hu;have l1 := he.lt hu;have hU := Bs hd w;have key : (execOp a.eval (Bq (.makeInterface t x) ty)).run c.P w = .ok (.value (.iface t (u.den ρ))) w ∨ ∃ ms, d = .interface ms := by
    cases d with
    | interface ms => exact .inr ⟨ms, rfl⟩
    | _ => left; simp [Bq, execOp, Instr.makeInterface, hU, e1]
  split at h
  · cases h
  · rename_i hni
    rcases key with key | ⟨ms, rfl⟩
    · split at h
      · simp only [Ca] at h;obtain ⟨rfl, rfl⟩ := h;exact ⟨by rw [key]; simp [V.den], by simp [V.lt]⟩
      · simp only [Ca] at h;obtain ⟨rfl, rfl⟩ := h;exact ⟨by rw [key]; simp [V.den], by simpa [V.lt] using l1⟩
    · exact absurd rfl (hni ms)
theorem vO (he : Gk ρ D s a) {f : Fn} {p q : Array Operand} (h : uO s f p.toList q.toList = some (v, rs)) : Yw c.P ρ s.n a w (.makeFunc f p q) ty v := by
  unfold uO at h;split at h
  · simp only [Ab, Ca] at h;obtain ⟨k, hk, l, hl, rfl, rfl⟩ := h;have e1 := he.evs hk;have e2 := he.evs hl;refine ⟨?_, ⟨Jq he.e hk, Jq he.e hl⟩⟩;have p1 : p.map a.eval = (Ac ρ k).toArray := Array.ext' (by rw [Array.toList_map]; exact e1);have p2 : q.map a.eval = (Ac ρ l).toArray := Array.ext' (by rw [Array.toList_map]; exact e2);simp [Bq, execOp, Instr.makeFunc, p1, p2, V.den]
  · cases h
theorem D7 (he : Gk ρ D s a) {x : Operand} {i : Nat} (h : S4 s x i = some (v, rs)) : Yw c.P ρ s.n a w (.extract x i) ty v := by
  simp only [S4, Ab] at h;obtain ⟨u, hu, h⟩ := h;have e1 := he.ev hu;have l1 := he.lt hu;split at h
  · rename_i l
    simp only [Ab, Ca] at h;obtain ⟨r, hr, rfl, rfl⟩ := h;refine ⟨?_, dJ (by simpa [V.lt] using l1) hr⟩;have := Jc (ρ := ρ) hr;rw [Em] at this;simp [Bq, execOp, Instr.extract, e1, V.den, this]
  · rename_i l
    split at h
    · rename_i r hr
      simp only [Ca] at h;obtain ⟨rfl, rfl⟩ := h;exact ⟨by simp [Bq, execOp, Instr.extract, e1, V.den, hr], by simp [V.lt]⟩
    · cases h
  · cases h

theorem aQ {c : Dr} {st f : Nat} {k : Nat × TypeId} (h : cX c st f = some k) : ∃ fs fd, (∀ w, (underlying st).run c.P w = .ok (.struct fs) w) ∧ fs[f]? = some fd ∧ fd.offset = k.1 ∧ fd.type = k.2 ∧ ∀ p w, (fieldPlace p fd).run c.P w = .ok (p.add k.1) w := by
  simp only [cX, Ab] at h;obtain ⟨fs, hfs, h⟩ := h;split at h
  · rename_i fd hfd
    obtain ⟨n, hn, h⟩ := Ab.1 h;split at h
    · cases h
    · rename_i m
      simp only [Option.some.injEq] at h;subst h;exact ⟨fs, fd, Vi hfs, hfd, rfl, rfl, fun p w => by simp [fieldPlace, Cy hn]⟩
  · cases h
theorem vP (x : Option Addr) (o n : Nat) : (ea x o).add n = ea x (o + n) := by unfold ea; rw [Ay, Nat.add_assoc]
theorem D8 (he : Gk ρ D s a) {st f : Nat} {x : Operand} (h : S2 c s st f x = some (v, rs)) : Yw c.P ρ s.n a w (.fieldAddr st x f) ty v := by
  simp only [S2, Ab] at h;obtain ⟨u, hu, k, hk, h⟩ := h;have e1 := he.ev hu;have l1 := he.lt hu;obtain ⟨fs, fd, hU, hfd, ho, ht, hp⟩ := aQ hk;have key : ∀ p, u.den ρ = .pointer (some p) → (execOp a.eval (Bq (.fieldAddr st x f) ty)).run c.P w = .ok (.value (.pointer (some (p.add k.1)))) w := fun p hp' => by
    simp [Bq, execOp, Instr.fieldAt, e1, hp', hU, hfd, Instr.sureAddr, hp]
  split at h
  · simp only [Ca] at h;obtain ⟨rfl, rfl⟩ := h;exact ⟨by rw [key _ rfl, Ay]; rfl, by simpa [V.lt] using l1⟩
  · simp only [Ca] at h;obtain ⟨rfl, rfl⟩ := h;exact ⟨by rw [key _ rfl, vP]; rfl, by simpa [V.lt] using l1⟩
  · simp only [Ca] at h;obtain ⟨rfl, rfl⟩ := h;exact ⟨by rw [key _ rfl, Ay]; rfl, by simp [V.lt]⟩
  · cases h
theorem Wf {c : Dr} {t : TypeId} {l : List V} {o : Nat} {v : V} (h : Ic c t l o = some v) (w : World) : (part t (Ac ρ l).toArray o).run c.P w = .ok (v.den ρ) w := by
  rcases Kt h with ⟨hA, hv⟩ | ⟨k, cs, hA, hS, hv, rfl⟩
  · have := Jc (ρ := ρ) hv;rw [Em] at this;simp [part, hA, this]
  · obtain ⟨e1, e2⟩ := Il _ _ _ _ hv;simp only [part, Sem.run_bind, hA, Result.andThen_ok, if_true, hS, Sem.run_pure, V.den];congr 3;subst e1;simp only [Ew, List.map_take, List.map_drop];simp only [List.extract_toArray, List.extract_eq_take_drop];congr 2; omega
theorem qP (he : Gk ρ D s a) {t f : Nat} {x : Operand} (h : kV c s t x f = some (v, rs)) : Yw c.P ρ s.n a w (.field t x f) ty v := by
  simp only [kV, Ab] at h;obtain ⟨u, hu, h⟩ := h;have e1 := he.ev hu;have l1 := he.lt hu;split at h
  · simp only [Ab, Ca] at h;obtain ⟨r, hr, rfl, rfl⟩ := h;exact ⟨by simp [Bq, execOp, e1, V.den, Dd hr w], by simp [V.lt]⟩
  · rename_i cs
    obtain ⟨fs, hfs, h⟩ := Ab.1 h;split at h
    · rename_i fd hfd
      simp only [Ab, Ca] at h;obtain ⟨r, hr, rfl, rfl⟩ := h;refine ⟨?_, Ku (by simpa [V.lt] using l1) hr⟩;simp [Bq, execOp, Instr.field, e1, V.den, Vi hfs, hfd, asAgg, Wf hr]
    · cases h
  · cases h
end
end Go.Proofs.YtbooaoddioibeaaGreatDoor.Jd

namespace Go.Proofs.YtbooaoddioibeaaGreatDoor.Jd
open Go.Proofs.Tryz
open Go.Proofs
open Go.RowKit (Below)
set_option linter.unusedVariables false
set_option linter.unusedSimpArgs false

theorem aR {k j : IntKind} (h : Mu k = Mu j) : k = j := by cases k <;> cases j <;> first | rfl | (exact absurd h (by decide))
theorem dL (a b : Int) : C3 a b = decide (a < b) := by
  cases a with
  | ofNat m =>
    cases b with
    | ofNat n => show Nat.blt m n = _; rw [Bool.eq_iff_iff]; simp only [Nat.blt_eq, decide_eq_true_eq, Int.ofNat_eq_natCast]; omega
    | negSucc n => show false = _; simp; omega
  | negSucc m =>
    cases b with
    | ofNat n => show true = _; simp; omega
    | negSucc n => show Nat.blt n m = _; rw [Bool.eq_iff_iff]; simp only [Nat.blt_eq, decide_eq_true_eq]; omega
theorem vQ (a b : Int) : eqI a b = decide (a = b) := by
  cases a with
  | ofNat m =>
    cases b with
    | ofNat n => show Nat.beq m n = _; rw [Bool.eq_iff_iff]; simp; omega
    | negSucc n => show false = _; simp
  | negSucc m =>
    cases b with
    | ofNat n => show false = _; simp
    | negSucc n => show Nat.beq m n = _; rw [Bool.eq_iff_iff]; simp
def Vs (k : IntKind) : Nat := match k with | .i8 => 128 | .i16 => 32768 | .i32 => 2147483648 | .i64 => 9223372036854775808 | .u8 => 256 | .u16 => 65536 | .u32 => 4294967296 | .u64 => 18446744073709551616
theorem Dk {k : IntKind} {a : Int} {m : Nat} (h : Dx k a = some m) : a = m ∧ m < Vs k := by
  cases a with
  | ofNat n =>
    have h : Be (Nat.blt n (IntKind.casesOn k 128 32768 2147483648 9223372036854775808 256 65536 4294967296 18446744073709551616)) (some n) none = some m := h;rw [Ch] at h;obtain ⟨h1, h2⟩ := h;simp only [Option.some.injEq] at h2;subst h2;refine ⟨rfl, ?_⟩;cases k <;> simpa [Nat.blt_eq, Vs] using h1
  | negSucc n => cases h
theorem oK {b : Int} {m : Nat} (h : uC b = some m) : b = m ∧ m < 64 := by
  cases b with
  | ofNat n =>
    have h : Be (Nat.blt n 64) (some n) none = some m := h;rw [Ch] at h;obtain ⟨h1, h2⟩ := h;simp only [Option.some.injEq] at h2;subst h2;exact ⟨rfl, by simpa [Nat.blt_eq] using h1⟩
  | negSucc n => cases h
theorem Jf {k : IntKind} {m : Nat} (h : m < Vs k) : k.wrap (m : Int) = m := by
  cases k <;> simp only [Vs] at h <;> simp [IntKind.wrap, IntKind.bits, IntKind.signed] <;> omega
theorem vR {k : IntKind} {r r' : Int} (h : M5 k r = some r') : k.wrap r = r' := by
  cases k <;> cases r with
  | ofNat m => first
    | (cases h; done)
    | (have h : Be (Nat.blt m 9223372036854775808) (some (Int.ofNat m)) none = some r' := h
       rw [Ch] at h; obtain ⟨h1, h2⟩ := h; simp only [Option.some.injEq] at h2; subst h2;exact Jf (k := .i64) (by simpa [Nat.blt_eq, Vs] using h1))
    | (have h : some (Int.ofNat (Nat.mod m 256)) = some r' := h
       simp only [Option.some.injEq] at h; subst h; simp [IntKind.wrap, IntKind.bits, IntKind.signed]; rfl)
    | (have h : some (Int.ofNat (Nat.mod m 4294967296)) = some r' := h
       simp only [Option.some.injEq] at h; subst h; simp [IntKind.wrap, IntKind.bits, IntKind.signed]; rfl)
    | (have h : some (Int.ofNat (Nat.mod m 18446744073709551616)) = some r' := h
       simp only [Option.some.injEq] at h; subst h; simp [IntKind.wrap, IntKind.bits, IntKind.signed]; rfl)
  | negSucc m => first
    | (cases h; done)
    | (have h : Be (Nat.blt m 9223372036854775808) (some (Int.negSucc m)) none = some r' := h
       rw [Ch] at h; obtain ⟨h1, h2⟩ := h; simp only [Option.some.injEq] at h2; subst h2;have h1 : m < 9223372036854775808 := by simpa [Nat.blt_eq] using h1
       exact Ni ⟨by omega, by omega⟩)
theorem iH (k : IntKind) : Vs k ≤ 2 ^ k.bits := by cases k <;> simp [Vs, IntKind.bits]
theorem vS (k : IntKind) : ∃ e, Vs k = 2 ^ e := by
  cases k
  · exact ⟨7, rfl⟩
  · exact ⟨15, rfl⟩
  · exact ⟨31, rfl⟩
  · exact ⟨63, rfl⟩
  · exact ⟨8, rfl⟩
  · exact ⟨16, rfl⟩
  · exact ⟨32, rfl⟩
  · exact ⟨64, rfl⟩
theorem Vj {k : IntKind} {m : Nat} (h : m < Vs k) : (BitVec.ofInt k.bits (m : Int)).toNat = m := by
  have := iH k;rw [BitVec.toNat_ofInt];have e : ((m : Int) % ((2 ^ k.bits : Nat) : Int)) = m := Int.emod_eq_of_lt z6 z6;rw [e]; simp
theorem dM {k : IntKind} {m n : Nat} (hm : m < Vs k) (hn : n < Vs k) :
    k.wrap ((BitVec.ofInt k.bits (m : Int) &&& BitVec.ofInt k.bits (n : Int)).toNat : Int) = ((Nat.land m n : Nat) : Int) ∧
    k.wrap ((BitVec.ofInt k.bits (m : Int) ||| BitVec.ofInt k.bits (n : Int)).toNat : Int) = ((Nat.lor m n : Nat) : Int) ∧
    k.wrap ((BitVec.ofInt k.bits (m : Int) ^^^ BitVec.ofInt k.bits (n : Int)).toNat : Int) = ((Nat.xor m n : Nat) : Int) := by
  obtain ⟨e, he⟩ := vS k;rw [BitVec.toNat_and, BitVec.toNat_or, BitVec.toNat_xor, Vj hm, Vj hn];rw [he] at hm hn;exact ⟨Jf (by rw [he]; exact Nat.lt_of_le_of_lt Nat.and_le_left hm), Jf (by rw [he]; exact Nat.or_lt_two_pow hm hn), Jf (by rw [he]; exact Nat.xor_lt_two_pow hm hn)⟩
theorem Wg {k : IntKind} {r : Int} {v : Value} (h : qI k r = some v) : v = .int k (k.wrap r) := by
  obtain ⟨r', h1, h2⟩ := Ab.1 h;simp only [Option.some.injEq] at h2;subst h2;rw [vR h1]
theorem qQ {k : IntKind} {m n : Nat} (hm : m < Vs k) : m / 2 ^ (min n k.bits) = m / 2 ^ n := by
  have h1 := iH k;rcases Nat.le_total n k.bits with h | h
  · rw [Nat.min_eq_left h]
  · rw [Nat.min_eq_right h, Nat.div_eq_of_lt z6, Nat.div_eq_of_lt];have : 2 ^ k.bits ≤ 2 ^ n := Nat.pow_le_pow_right z6 h;omega
theorem iI {P : Program} {op : BinOp} {k j : IntKind} {p q : Int} {v : Value} (h : gR op k p q = some v) (hj : cY op = true ∨ k = j) (t : TypeId) (w : World) : (binOp op t (.int k p) (.int j q)).run P w = .ok v w := by
  cases op with
  | add => rcases hj with hj | rfl; · cases hj
           rw [Wg h]; simp [binOp, Op.intArith]
  | sub => rcases hj with hj | rfl; · cases hj
           rw [Wg h]; simp [binOp, Op.intArith]; rfl
  | mul => rcases hj with hj | rfl; · cases hj
           rw [Wg h]; simp [binOp, Op.intArith]
  | quo =>
    rcases hj with hj | rfl; · cases hj
    replace h : (Af (Dx k p) fun a => Af (Dx k q) fun b => Be (Nat.beq b 0) none (some (Value.int k (.ofNat (Nat.div a b))))) = some v := h
    simp only [Ab, Dg] at h;obtain ⟨a, ha, b, hb, h⟩ := h;obtain ⟨e1, h8⟩ := Dk ha;clear ha; subst e1;obtain ⟨e2, h9⟩ := Dk hb;clear hb; subst e2;split at h
    · cases h
    · rename_i hz
      have hz : ¬ b = 0 := fun e => hz (by subst e; rfl)
      simp only [Option.some.injEq] at h;subst h;have h1 : ¬ (b : Int) = 0 := by omega
      have h2 : ((a : Int).tdiv (b : Int)) = ((a / b : Nat) : Int) := by rw [Int.tdiv_eq_ediv_of_nonneg z6]; rfl
      have h3 : k.wrap ((a / b : Nat) : Int) = ((a / b : Nat) : Int) := Jf (Nat.lt_of_le_of_lt (Nat.div_le_self _ _) h8);simp only [binOp, Op.intDiv, ne_eq, not_true, if_false, h1, h2, h3, Sem.run_pure]; rfl
  | rem =>
    rcases hj with hj | rfl; · cases hj
    replace h : (Af (Dx k p) fun a => Af (Dx k q) fun b => Be (Nat.beq b 0) none (some (Value.int k (.ofNat (Nat.mod a b))))) = some v := h
    simp only [Ab, Dg] at h;obtain ⟨a, ha, b, hb, h⟩ := h;obtain ⟨e1, h8⟩ := Dk ha;clear ha; subst e1;obtain ⟨e2, h9⟩ := Dk hb;clear hb; subst e2;split at h
    · cases h
    · rename_i hz
      have hz : ¬ b = 0 := fun e => hz (by subst e; rfl)
      simp only [Option.some.injEq] at h;subst h;have h1 : ¬ (b : Int) = 0 := by omega
      have h2 : ((a : Int).tmod (b : Int)) = ((a % b : Nat) : Int) := by rw [Int.tmod_eq_emod_of_nonneg z6]; rfl
      simp only [binOp, Op.intDiv, ne_eq, not_true, if_false, h1, h2, Sem.run_pure]; rfl
  | and =>
    rcases hj with hj | rfl; · cases hj
    replace h : (Af (Dx k p) fun a => Af (Dx k q) fun b => some (Value.int k (.ofNat (Nat.land a b)))) = some v := h
    simp only [Ab, Option.some.injEq] at h;obtain ⟨a, ha, b, hb, rfl⟩ := h;obtain ⟨e1, h8⟩ := Dk ha;clear ha; subst e1;obtain ⟨e2, h9⟩ := Dk hb;clear hb; subst e2;simp only [binOp, Op.intBits, ne_eq, not_true, if_false, Sem.run_pure, (dM h8 h9).1]; rfl
  | or =>
    rcases hj with hj | rfl; · cases hj
    replace h : (Af (Dx k p) fun a => Af (Dx k q) fun b => some (Value.int k (.ofNat (Nat.lor a b)))) = some v := h
    simp only [Ab, Option.some.injEq] at h;obtain ⟨a, ha, b, hb, rfl⟩ := h;obtain ⟨e1, h8⟩ := Dk ha;clear ha; subst e1;obtain ⟨e2, h9⟩ := Dk hb;clear hb; subst e2;simp only [binOp, Op.intBits, ne_eq, not_true, if_false, Sem.run_pure, (dM h8 h9).2.1]; rfl
  | xor =>
    rcases hj with hj | rfl; · cases hj
    replace h : (Af (Dx k p) fun a => Af (Dx k q) fun b => some (Value.int k (.ofNat (Nat.xor a b)))) = some v := h
    simp only [Ab, Option.some.injEq] at h;obtain ⟨a, ha, b, hb, rfl⟩ := h;obtain ⟨e1, h8⟩ := Dk ha;clear ha; subst e1;obtain ⟨e2, h9⟩ := Dk hb;clear hb; subst e2;simp only [binOp, Op.intBits, ne_eq, not_true, if_false, Sem.run_pure, (dM h8 h9).2.2]; rfl
  | shl =>
    replace h : (Af (Dx k p) fun a => Af (uC q) fun b => qI k (.ofNat (Nat.shiftLeft a b))) = some v := h
    simp only [Ab] at h;obtain ⟨a, ha, b, hb, h⟩ := h;obtain ⟨e1, h8⟩ := Dk ha;clear ha; subst e1;obtain ⟨e2, h9⟩ := oK hb;clear hb; subst e2;rw [Wg h];have h1 : ¬ (b : Int) < 0 := by omega
    have e : k.wrap ((a : Int) * 2 ^ (min b k.bits)) = k.wrap (Int.ofNat (Nat.shiftLeft a b)) := by
      have e1 : Int.ofNat (Nat.shiftLeft a b) = (a : Int) * 2 ^ b := by
        show ((a <<< b : Nat) : Int) = _
        rw [Nat.shiftLeft_eq]; simp
      rw [e1];rcases Nat.le_total b k.bits with h | h
      · rw [Nat.min_eq_left h]
      · rw [Nat.min_eq_right h];have z1 : ((a : Int) * 2 ^ k.bits) % 2 ^ k.bits = 0 := Int.mul_emod_left _ _;have z2 : ((a : Int) * 2 ^ b) % 2 ^ k.bits = 0 := by
          have : (2 : Int) ^ b = 2 ^ (b - k.bits) * 2 ^ k.bits := by rw [← Int.pow_add]; congr 1; omega
          rw [this, ← Int.mul_assoc]; exact Int.mul_emod_left _ _
        simp only [IntKind.wrap, z1, z2]
    cases j <;> simp [binOp, Op.shift, h1, e]
  | shr =>
    replace h : (Af (Dx k p) fun a => Af (uC q) fun b => some (Value.int k (.ofNat (Nat.shiftRight a b)))) = some v := h
    simp only [Ab, Option.some.injEq] at h;obtain ⟨a, ha, b, hb, rfl⟩ := h;obtain ⟨e1, h8⟩ := Dk ha;clear ha; subst e1;obtain ⟨e2, h9⟩ := oK hb;clear hb; subst e2;have h1 : ¬ (b : Int) < 0 := by omega
    have e : (a : Int).fdiv (2 ^ (min b k.bits)) = Int.ofNat (Nat.shiftRight a b) := by
      show _ = ((a >>> b : Nat) : Int)
      rw [Nat.shiftRight_eq_div_pow, ← qQ h8, Int.fdiv_eq_ediv_of_nonneg _ (Int.le_of_lt (Int.pow_pos z6))];simp
    cases j <;> simp [binOp, Op.shift, h1, e]
  | andNot => cases h
  | eql => rcases hj with hj | rfl; · cases hj
           replace h : some (Value.bool (eqI p q)) = some v := h
           simp only [Option.some.injEq] at h; subst h;simp only [binOp, ne_eq, not_true, if_false, Op.intCmp, Sem.run_pure, vQ];by_cases e : p = q <;> simp [e]
  | neq => rcases hj with hj | rfl; · cases hj
           replace h : some (Value.bool (not (eqI p q))) = some v := h
           simp only [Option.some.injEq] at h; subst h;simp only [binOp, ne_eq, not_true, if_false, Op.intCmp, Sem.run_pure, vQ];by_cases e : p = q <;> simp [e]
  | lss => rcases hj with hj | rfl; · cases hj
           replace h : some (Value.bool (C3 p q)) = some v := h
           simp only [Option.some.injEq] at h; subst h;simp [binOp, Op.intCmp, dL]
  | leq => rcases hj with hj | rfl; · cases hj
           replace h : some (Value.bool (not (C3 q p))) = some v := h
           simp only [Option.some.injEq] at h; subst h;simp [binOp, Op.intCmp, dL];by_cases e : q < p <;> simp [e] <;> omega
  | gtr => rcases hj with hj | rfl; · cases hj
           replace h : some (Value.bool (C3 q p)) = some v := h
           simp only [Option.some.injEq] at h; subst h;simp [binOp, Op.intCmp, dL]
  | geq => rcases hj with hj | rfl; · cases hj
           replace h : some (Value.bool (not (C3 p q))) = some v := h
           simp only [Option.some.injEq] at h; subst h;simp [binOp, Op.intCmp, dL];by_cases e : p < q <;> simp [e] <;> omega
end Go.Proofs.YtbooaoddioibeaaGreatDoor.Jd

namespace Go.Proofs.YtbooaoddioibeaaGreatDoor.Jd
open Go.Proofs.Tryz
open Go.Proofs
open Go.RowKit (Below)
set_option linter.unusedVariables false
set_option linter.unusedSimpArgs false

theorem vT {P : Program} {ρ : Au} {op : BinOp} {a b : V} {v : Value} (h : uD op a b = some v) (t : TypeId) (w : World) : ∃ k p j q, a.den ρ = .int k p ∧ b.den ρ = .int j q ∧ (binOp op t (.int k p) (.int j q)).run P w = .ok v w := by
  cases a with
  | raw x =>
    cases x with
    | int k p =>
      cases b with
      | raw y =>
        cases y with
        | int j q =>
          have h : Be (cY op) (gR op k p q) (Be (Nat.beq (Mu k) (Mu j)) (gR op k p q) none) = some v := h;refine ⟨k, p, j, q, rfl, rfl, ?_⟩;simp only [Dg] at h;split at h
          · rename_i hs; exact iI h (.inl hs) t w
          · split at h
            · rename_i hk; exact iI h (.inr (aR (Nat.eq_of_beq_eq_true hk))) t w
            · cases h
        | _ => cases h
      | _ => cases h
    | _ => cases h
  | _ => cases h

section
variable {c : Dr} {ρ : Au}
theorem Gd {v : V} {p : IntKind × Lin} (h : Oa v = some p) : v.den ρ = .int p.1 (p.2.den ρ.iv) := by
  unfold Oa at h;split at h
  · simp only [Option.some.injEq] at h; subst h; simp [V.den, Lin.den_const]
  · simp only [Option.some.injEq] at h; subst h; rfl
  · cases h
theorem Ma {v : V} {l : List Pc} (h : cZ v = some l) : v.den ρ = .string ⟨(Aq ρ.iv ρ.sv l).toArray⟩ := by
  unfold cZ at h;split at h
  · simp only [Option.some.injEq] at h; subst h; simp [V.den, Aq, Pc.den]
  · simp only [Option.some.injEq] at h; subst h; rfl
  · cases h
theorem Jt (k : IntKind) (e : Lin) : (nT k e).den ρ = .int k (e.den ρ.iv) := by
  unfold nT;split
  · rename_i h; simp [V.den, Lin.den, h, Az]
  · rfl
theorem Oe (k : IntKind) (e : Lin) (n : Nat) : (nT k e).lt n := by
  unfold nT; split <;> simp [V.lt]
theorem aS (hv : Hc c.B ρ.iv ρ.sv) {k : IntKind} {e : Lin} (h : dA c k e = true) : k.wrap (e.den ρ.iv) = e.den ρ.iv ∧ (k = .i64 ∨ k = .u8 ∧ 0 ≤ e.den ρ.iv ∧ e.den ρ.iv ≤ 255) := by
  unfold dA at h;split at h
  · simp only [Bool.and_eq_true] at h;have h1 := Hx hv h.1;have h2 := Hx hv h.2;rw [Lin.den_addc] at h1;rw [Lin.den_sub, Lin.den_const] at h2;exact ⟨Ni ⟨by omega, by omega⟩, .inl rfl⟩
  · simp only [Bool.and_eq_true] at h;have h1 := Hx hv h.1;have h2 := Hx hv h.2;rw [Lin.den_sub, Lin.den_const] at h2;exact ⟨zW ⟨by omega, by omega⟩, .inr ⟨rfl, h1, by omega⟩⟩
  · cases h
theorem Pq (hv : Hc c.B ρ.iv ρ.sv) {k : IntKind} {e : Lin} {v : V} (h : Ze c k e = some v) : v.den ρ = .int k (k.wrap (e.den ρ.iv)) ∧ ∀ n, v.lt n := by
  unfold Ze at h;split at h
  · rename_i hr
    simp only [Option.some.injEq] at h;subst h;rw [Jt, (aS hv hr).1];exact ⟨rfl, Oe k e⟩
  · cases h
theorem Ho {x : Option Bool} {v : V} (h : Qn x = some v) : ∃ b, x = some b ∧ v = .raw (.bool b) := by
  cases x with
  | none => cases h
  | some b => exact ⟨b, rfl, by simpa [Qn] using h.symm⟩
theorem Wh {x : Option Bool} {b : Bool} (h : qJ x = some b) : x = some (! b) := by
  cases x with
  | none => cases h
  | some y => simp only [qJ, Option.some.injEq] at h; subst h; simp
theorem vU (hv : Hc c.B ρ.iv ρ.sv) {op : BinOp} {k : IntKind} {a b : Lin} {v : V} (h : uE c op k a b = some v) (t : TypeId) (w : World) :
    (binOp op t (.int k (a.den ρ.iv)) (.int k (b.den ρ.iv))).run c.P w = .ok (v.den ρ) w ∧ ∀ n, v.lt n := by
  unfold uE at h;split at h
  · obtain ⟨h1, h2⟩ := Pq hv h;rw [h1, Lin.den_add]; exact ⟨by simp [binOp, Op.intArith], h2⟩
  · obtain ⟨h1, h2⟩ := Pq hv h;rw [h1, Lin.den_sub]; exact ⟨by simp [binOp, Op.intArith], h2⟩
  · split at h
    · rename_i hz
      obtain ⟨h1, h2⟩ := Pq hv h;have e : a.den ρ.iv = a.c := by simp [Lin.den, hz, Az]
      rw [h1, Lin.den_smul, e]; exact ⟨by simp [binOp, Op.intArith], h2⟩
    · rename_i hz hn
      obtain ⟨h1, h2⟩ := Pq hv h;have e : b.den ρ.iv = b.c := by simp [Lin.den, hz, Az]
      rw [h1, Lin.den_smul, e, Int.mul_comm b.c]; exact ⟨by simp [binOp, Op.intArith], h2⟩
    · cases h
  · obtain ⟨d, hd, h⟩ := Ab.1 h;split at h
    · rename_i hg
      obtain ⟨q, hq, h⟩ := Ab.1 h;obtain ⟨h1, h2⟩ := Pq hv h;have h3 := Hx hv hg;obtain ⟨g1, g2, g3⟩ := nS hv (q := q.1) (r := q.2) hq;rw [Pm hd, h1, ← g2];have e1 : ¬ (d : Int) = 0 := by omega
      have e2 : (a.den ρ.iv).tdiv d = a.den ρ.iv / d := Int.tdiv_eq_ediv_of_nonneg h3;exact ⟨by simp only [binOp, Op.intDiv, ne_eq, not_true, if_false, e1, e2, Sem.run_pure], h2⟩
    · cases h
  · obtain ⟨d, hd, h⟩ := Ab.1 h;split at h
    · rename_i hg
      obtain ⟨q, hq, h⟩ := Ab.1 h;have h3 := Hx hv hg;obtain ⟨g1, g2, g3⟩ := nS hv (q := q.1) (r := q.2) hq;unfold Ze at h;split at h
      · rename_i hr
        simp only [Option.some.injEq] at h;subst h;rw [Pm hd, Jt, ← g3];have e1 : ¬ (d : Int) = 0 := by omega
        have e2 : (a.den ρ.iv).tmod d = a.den ρ.iv % d := Int.tmod_eq_emod_of_nonneg h3;exact ⟨by simp only [binOp, Op.intDiv, ne_eq, not_true, if_false, e1, e2, Sem.run_pure], Oe k _⟩
      · cases h
    · cases h
  · obtain ⟨r, hr, rfl⟩ := Ho h;have := cQ hv hr;subst this;exact ⟨by simp [binOp, Op.intCmp, V.den], fun n => by simp [V.lt]⟩
  · obtain ⟨r, hr, rfl⟩ := Ho h;have := cQ hv hr;subst this;exact ⟨by simp [binOp, Op.intCmp, V.den], fun n => by simp [V.lt]⟩
  · obtain ⟨r, hr, rfl⟩ := Ho h;have := cQ hv (Wh hr);refine ⟨?_, fun n => by simp [V.lt]⟩;have e : r = decide (a.den ρ.iv ≤ b.den ρ.iv) := by
      by_cases e : b.den ρ.iv < a.den ρ.iv
      · simp [e] at this; subst this; simp; omega
      · simp [e] at this; subst this; simp; omega
    subst e;simp [binOp, Op.intCmp, V.den]
  · obtain ⟨r, hr, rfl⟩ := Ho h;have := cQ hv (Wh hr);refine ⟨?_, fun n => by simp [V.lt]⟩;have e : r = decide (b.den ρ.iv ≤ a.den ρ.iv) := by
      by_cases e : a.den ρ.iv < b.den ρ.iv
      · simp [e] at this; subst this; simp; omega
      · simp [e] at this; subst this; simp; omega
    subst e;simp [binOp, Op.intCmp, V.den]
  · obtain ⟨r, hr, rfl⟩ := Ho h;have := cR hv hr;subst this;refine ⟨?_, fun n => by simp [V.lt]⟩;simp only [binOp, ne_eq, not_true, if_false, Op.intCmp, Sem.run_pure, V.den];by_cases e : a.den ρ.iv = b.den ρ.iv <;> simp [e]
  · obtain ⟨r, hr, rfl⟩ := Ho h;have := cR hv (Wh hr);refine ⟨?_, fun n => by simp [V.lt]⟩;simp only [binOp, ne_eq, not_true, if_false, Op.intCmp, Sem.run_pure, V.den];by_cases e : a.den ρ.iv = b.den ρ.iv
    · simp [e] at this; subst this; simp [e]
    · simp [e] at this; subst this; simp [e]
  · cases h
theorem D9 {p q : Pc} (h : R7 p q = true) : p.den ρ.iv ρ.sv = q.den ρ.iv ρ.sv := by
  unfold R7 at h;split at h
  · simp only [Pc.den]; simpa using h
  · have := Qx h ρ.iv;rw [Lin.den_sub] at this;simp only [Pc.den]; congr 2; omega
  · simp only [Pc.den]; rw [Nat.eq_of_beq_eq_true h]
  · cases h
theorem dN : ∀ {a b : List Pc}, uF a b = true → Aq ρ.iv ρ.sv a = Aq ρ.iv ρ.sv b
  | [], [], _ => rfl
  | p :: r, q :: t, h => by
    simp only [uF] at h;split at h
    · rename_i hp; simp only [Aq, D9 hp, dN h]
    · cases h
  | [], _ :: _, h => by cases h
  | _ :: _, [], h => by cases h
theorem lH (hv : Hc c.B ρ.iv ρ.sv) {a b : List Pc} {r : Bool} (h : eqT c a b = some r) : r = decide (Aq ρ.iv ρ.sv a = Aq ρ.iv ρ.sv b) := by
  unfold eqT at h;split at h
  · rename_i he; simp only [Option.some.injEq] at h; subst h; simp [dN he]
  · obtain ⟨m, hm, h⟩ := Ab.1 h;obtain ⟨n, hn, h⟩ := Ab.1 h;split at h
    · rename_i he
      simp only [Option.some.injEq] at h;subst h;have h1 := cR hv he;have h2 := Ei hv hm;have h3 := Ei hv hn;have : ¬ Aq ρ.iv ρ.sv a = Aq ρ.iv ρ.sv b := fun e => by
        rw [e] at h2;have : m.den ρ.iv = n.den ρ.iv := by omega
        simp [this] at h1
      simp [this]
    · cases h
theorem vV (hv : Hc c.B ρ.iv ρ.sv) {op : BinOp} {a b : List Pc} {v : V} (h : uG c op a b = some v) (t : TypeId) (w : World) :
    (binOp op t (.string ⟨(Aq ρ.iv ρ.sv a).toArray⟩) (.string ⟨(Aq ρ.iv ρ.sv b).toArray⟩)).run c.P w = .ok (v.den ρ) w ∧ ∀ n, v.lt n := by
  unfold uG at h;split at h
  · obtain ⟨m, hm, h⟩ := Ab.1 h;obtain ⟨n, hn, h⟩ := Ab.1 h;split at h
    · rename_i hl
      simp only [Bool.and_eq_true] at hl;have h1 := Ix hv hl.1;have h2 := Ix hv hl.2;rw [kS, Lin.den_const] at h1 h2;have h3 := Ei hv hm;have h4 := Ei hv hn;simp only [Option.some.injEq] at h;subst h;refine ⟨?_, fun n => by simp [V.lt]⟩;show (binOp .add t (.string (bs (Aq ρ.iv ρ.sv a))) (.string (bs (Aq ρ.iv ρ.sv b)))).run c.P w = .ok (.string (bs (Aq ρ.iv ρ.sv (a ++ b)))) w
      have g1 : ¬ (((bs (Aq ρ.iv ρ.sv a)).size + (bs (Aq ρ.iv ρ.sv b)).size : Nat) : Int) > IntKind.i64.max := by
        rw [Eh, Eh]; show ¬ _ > (9223372036854775807 : Int); omega
      simp only [binOp, Op.stringOp, g1, if_false, pU, Hi, Sem.run_pure]
    · cases h
  · obtain ⟨r, hr, rfl⟩ := Ho h;have := lH hv hr;subst this;refine ⟨?_, fun n => by simp [V.lt]⟩;show (binOp .eql t (.string (bs (Aq ρ.iv ρ.sv a))) (.string (bs (Aq ρ.iv ρ.sv b)))).run c.P w = .ok (.bool _) w
    simp only [binOp, Op.stringOp, Tw, Sem.run_pure];by_cases e : Aq ρ.iv ρ.sv a = Aq ρ.iv ρ.sv b <;> simp [e]
  · obtain ⟨r, hr, rfl⟩ := Ho h;have := lH hv (Wh hr);refine ⟨?_, fun n => by simp [V.lt]⟩;show (binOp .neq t (.string (bs (Aq ρ.iv ρ.sv a))) (.string (bs (Aq ρ.iv ρ.sv b)))).run c.P w = .ok (.bool _) w
    simp only [binOp, Op.stringOp, Tw, Sem.run_pure];by_cases e : Aq ρ.iv ρ.sv a = Aq ρ.iv ρ.sv b
    · simp [e] at this; subst this; simp [e]
    · simp [e] at this; subst this; simp [e]
  · cases h
end
end Go.Proofs.YtbooaoddioibeaaGreatDoor.Jd

namespace Go.Proofs.YtbooaoddioibeaaGreatDoor.Jd
open Go.Proofs.Tryz
open Go.Proofs
open Go.RowKit (Below)
set_option linter.unusedVariables false
set_option linter.unusedSimpArgs false
section
variable {c : Dr} {ρ : Au}
theorem Wi {v : V} {l : List V} (h : gS v = some l) : v.den ρ = .agg (Ac ρ l).toArray ∧ ∀ n, v.lt n → Dh n l := by
  unfold gS at h;split at h
  · simp only [Option.some.injEq] at h; subst h; exact ⟨rfl, fun n h => by simpa [V.lt] using h⟩
  · rename_i l
    simp only [Option.some.injEq] at h; subst h;refine ⟨by simp [V.den, Sf], fun n _ => ?_⟩;rw [Ej]; intro v hv;obtain ⟨x, _, rfl⟩ := List.mem_map.1 hv;simp [V.lt]
  · cases h
theorem oL {e : TypeId → V → V → Option Bool} {p q : List V} {d : Nat} {w : World} (he : ∀ t x y r, e t x y = some r → (Op.equalIn d t (x.den ρ) (y.den ρ)).run c.P w = .ok r w) :
    ∀ {l : List Field} {r : Bool}, uH c e p q l = some r →
      Sem.run c.P (forIn l ((none, ()) : Option Bool × Unit) fun f __s =>
            if f.name = "_" then pure (ForInStep.yield (none, ()))
            else do
              let __do_lift ← part f.type (Ac ρ p).toArray f.offset
              let __do_lift_1 ← part f.type (Ac ρ q).toArray f.offset
              let __do_lift ← Op.equalIn d f.type __do_lift __do_lift_1
              if __do_lift = false then pure (ForInStep.done (some false, ())) else pure (ForInStep.yield (none, ()))) w = .ok (if r then (none, ()) else (some false, ())) w
  | [], r, h => by
    have h : some true = some r := h;simp only [Option.some.injEq] at h; subst h;simp
  | f :: l, r, h => by
    have h : Be (f.name == "_") none (Af (Ic c f.type p f.offset) fun x => Af (Ic c f.type q f.offset) fun y => Af (e f.type x y) fun b => Be b (uH c e p q l) (some false)) = some r := h;rw [Dg] at h;split at h
    · cases h
    · rename_i hn
      have hn : ¬ f.name = "_" := fun e => hn (by rw [e]; rfl)
      simp only [Ab] at h;obtain ⟨x, hx, y, hy, b, hb, h⟩ := h;have h1 := Wf (ρ := ρ) hx w;have h2 := Wf (ρ := ρ) hy w;have h3 := he _ _ _ _ hb;rw [List.forIn_cons];cases b
      · have h : some false = some r := h;simp only [Option.some.injEq] at h; subst h;simp [hn, h1, h2, h3]
      · have ih := oL (d := d) (w := w) he (l := l) (r := r) h;simp [hn, h1, h2, h3] at ih ⊢;exact ih
theorem AQ8 (l m : List UInt8) : ((⟨l.toArray⟩ : ByteArray) == ⟨m.toArray⟩) = decide (l = m) := by
  show (l.toArray == m.toArray) = _
  by_cases e : l = m
  · subst e; simp
  · simp [e]
theorem oM (hv : Hc c.B ρ.iv ρ.sv) (w : World) : ∀ (f d : Nat) (t : TypeId) (a b : V) (r : Bool), f ≤ d → C4 c f t a b = some r → (Op.equalIn d t (a.den ρ) (b.den ρ)).run c.P w = .ok r w
  | 0, d, t, a, b, r, _, h => by cases h
  | f + 1, 0, t, a, b, r, hd, h => by omega
  | f + 1, d + 1, t, a, b, r, hd, h => by
    have h : (Af (Ij c t) fun d => match d with
      | .int _ => eqN c a b
      | .string => eqX c a b
      | .bool => eqB a b
      | .struct fs => Af (gS a) fun p => Af (gS b) fun q => Af (Eu c.P (do pure ((← program).stoodInHeld t))) fun h => Be h none (uH c (C4 c f) p q fs.toList)
      | _ => none) = some r := h
    obtain ⟨u, hu, h⟩ := Ab.1 h;have hU := Bs hu;split at h
    · simp only [eqN, Ab, Ch] at h;obtain ⟨p, hp, q, hq, hk, h⟩ := h;have hk := aR (Nat.eq_of_beq_eq_true hk);have := cR hv h;subst this;unfold Op.equalIn;rw [Gd hp, Gd hq, hk];simp only [Sem.run_bind, hU, Result.andThen_ok, if_true, Sem.run_pure];by_cases e : p.2.den ρ.iv = q.2.den ρ.iv <;> simp [e]
    · simp only [eqX, Ab] at h;obtain ⟨p, hp, q, hq, h⟩ := h;have := lH hv h;subst this;unfold Op.equalIn;rw [Ma hp, Ma hq];simp only [Sem.run_bind, hU, Result.andThen_ok, Sem.run_pure];simp only [AQ8]
    · unfold eqB at h;split at h
      · simp only [Option.some.injEq] at h;subst h;unfold Op.equalIn;simp only [V.den, Sem.run_bind, hU, Result.andThen_ok, Sem.run_pure]
      · cases h
    · rename_i fs
      simp only [Ab] at h;obtain ⟨p, hp, q, hq, g, hg, h⟩ := h;cases g with
      | true => cases h
      | false =>
        have h : uH c (C4 c f) p q fs.toList = some r := h;have hs : c.P.stoodInHeld t = false := Option.some.inj (show some (c.P.stoodInHeld t) = some false from hg);have key := oL (c := c) (ρ := ρ) (d := d) (w := w) (fun t x y r h => oM hv w f d t x y r z6 h) h;unfold Op.equalIn;rw [(Wi hp).1, (Wi hq).1];simp only [Sem.run_bind, hU, Result.andThen_ok, program];simp [Sem.run, hs];rw [← Array.forIn_toList];simp only [key, Result.andThen_ok];cases r <;> simp
    · cases h
end
end Go.Proofs.YtbooaoddioibeaaGreatDoor.Jd

namespace Go.Proofs.YtbooaoddioibeaaGreatDoor.Jd
open Go.Proofs.Tryz
open Go.Proofs
open Go.RowKit (Below)
set_option linter.unusedVariables false
set_option linter.unusedSimpArgs false
section
variable {c : Dr} {b0 : World} {Mk : List Nat} {ρ : Au} {D : List Deferred} {s : St} {a : Act} {w : World} {ty : TypeId} {v : V} {rs : List RE}
theorem iJ {i t k : Nat} {xs : List (List V)} {B : Ad} (h : (O.own t k xs).is ρ i B) (hx : 0 < xs.length) : ∃ r, (ρ.own i).1 = some ⟨r, 0, none⟩ := by
  obtain ⟨Tp, hx', hO⟩ := h;rcases hO with ⟨h1, rfl, h3⟩ | ⟨r, cur, fz, h1, rfl, hfz, h2, h3, h4⟩
  · have : xs = [] := by simpa using h3
    subst this; simp at hx
  · exact ⟨r, h1⟩
theorem Su {op : BinOp} {e : Bool} (h : gT op = some e) : op = .eql ∧ e = true ∨ op = .neq ∧ e = false := by
  cases op <;> simp [gT] at h <;> simp [h]
theorem lI {P : Program} {op : BinOp} {e r : Bool} (he : gT op = some e) {t : TypeId} {x y : Value} {p q : Operand} (hg : (eqGuard op t p q x y).run P w = .ok () w) (h : (Op.equal t x y).run P w = .ok r w)
    (hb : (binOp .eql t x y = do pure (.bool (← Op.equal t x y))) ∧ binOp .neq t x y = do pure (.bool (!(← Op.equal t x y)))) :
    Sem.run P (do eqGuard op t p q x y; binOp op t x y) w = .ok (.bool (r == e)) w := by
  rcases Su he with ⟨rfl, rfl⟩ | ⟨rfl, rfl⟩
  · simp [hg, hb.1, h]
  · simp [hg, hb.2, h]
theorem T8 {t : TypeId} {x y : V} {r : Bool} (h : eqV c s t x y = some (r, rs)) (hr : Rd b0 Mk ρ s rs w) {op : BinOp} {e : Bool} (he : gT op = some e) (p q : Operand) :
    Sem.run c.P (do eqGuard op t p q (x.den ρ) (y.den ρ); binOp op t (x.den ρ) (y.den ρ)) w = .ok (.bool (r == e)) w := by
  obtain ⟨d, hd, h⟩ := Ab.1 h;have hU := Bs hd;obtain ⟨dd, hdd⟩ : ∃ d, Op.maxDepth = d + 1 := ⟨9999, rfl⟩
  split at h
  all_goals first
    | (simp only [Option.some.injEq, Prod.mk.injEq] at h
       obtain ⟨rfl, rfl⟩ := h;refine lI he (by unfold eqGuard; rcases Su he with ⟨rfl, rfl⟩ | ⟨rfl, rfl⟩ <;> simp [V.den]) ?_ ⟨rfl, rfl⟩;unfold Op.equal; rw [hdd];simp [Op.equalIn, hU, V.den])
    | skip
  · rename_i i j k0 n m _
    split at h
    · rename_i t' k' x0 xs hb
      simp only [Option.some.injEq, Prod.mk.injEq] at h;obtain ⟨rfl, rfl⟩ := h;obtain ⟨B, hB, hw⟩ := hr.one List.mem_cons_self hb;obtain ⟨b, hb'⟩ := iJ hB Jy;refine lI he (by unfold eqGuard; rcases Su he with ⟨rfl, rfl⟩ | ⟨rfl, rfl⟩ <;> simp [V.den]) ?_ ⟨rfl, rfl⟩;have : ∃ z, (if m.getD (ρ.own i).2 = j then (ρ.own i).1 else (ρ.own i).1.map (·.add (j * k0))) = some z := by
        rw [hb']; split <;> simp
      obtain ⟨z, hz⟩ := this;unfold Op.equal; rw [hdd];simp [Op.equalIn, hU, V.den, hz]
    · cases h
  · cases h
theorem vW {e : Bool} {x : Option Bool} (h : uI e x = some (v, rs)) : ∃ b, x = some b ∧ v = .raw (.bool (b == e)) ∧ rs = [] := by
  cases x with
  | none => cases h
  | some b => simp only [uI, Option.some.injEq, Prod.mk.injEq] at h; exact ⟨b, rfl, h.1.symm, h.2.symm⟩
theorem vX {P : Program} {op : BinOp} {t : TypeId} {x y : Operand} {k j : IntKind} {p q : Int} : (eqGuard op t x y (.int k p) (.int j q)).run P w = .ok () w := by
  unfold eqGuard; cases op <;> simp
theorem T9 {P : Program} {op : BinOp} {t : TypeId} {x y : Operand} {p q : ByteArray} : (eqGuard op t x y (.string p) (.string q)).run P w = .ok () w := by
  unfold eqGuard; cases op <;> simp
theorem E0 (hv : Hc c.B ρ.iv ρ.sv) (he : Gk ρ D s a) {op : BinOp} {t : TypeId} {x y : Operand} {tk : TypeId} (h : S6 c s op t x y = some (v, rs)) (hr : Rd b0 Mk ρ s rs w) : Yw c.P ρ s.n a w (.binOp op t x y tk) ty v := by
  simp only [S6, Ab] at h;obtain ⟨p, hp, q, hq, h⟩ := h;have e1 := he.ev hp;have e2 := he.ev hq
  suffices hh : Sem.run c.P (do eqGuard op t x y (p.den ρ) (q.den ρ); binOp op t (p.den ρ) (q.den ρ)) w = .ok (v.den ρ) w ∧ v.lt s.n by
    refine ⟨?_, hh.2⟩;have h1 := hh.1;simp only [Bq, execOp, e1, e2];rw [Sem.run_bind, h1];rfl
  unfold AF8 at h;cases hf : uD op p q with
  | some r =>
    rw [hf] at h;simp only [Iy, Option.some.injEq, Prod.mk.injEq] at h;obtain ⟨rfl, rfl⟩ := h;obtain ⟨k, m, j, n, h1, h2, h3⟩ := vT (P := c.P) (ρ := ρ) hf t w;rw [h1, h2];exact ⟨by simp [vX, h3, V.den], by simp [V.lt]⟩
  | none =>
    rw [hf] at h;simp only [Se] at h;unfold AF7 at h;split at h
    · rename_i u u' hu hu'
      simp only [Ab, Option.some.injEq, Prod.mk.injEq] at h;obtain ⟨r, hr', rfl, rfl⟩ := h;rw [cT hu, cT hu'];exact ⟨by rw [Dd hr' w]; rfl, by simp [V.lt]⟩
    · split at h
      · rename_i m n hm hn
        split at h
        · rename_i hk
          simp only [Ab, Option.some.injEq, Prod.mk.injEq] at h;obtain ⟨r, hr', rfl, rfl⟩ := h;rw [Gd hm, Gd hn];have hk : m.1 = n.1 := by simpa using hk
          obtain ⟨h1, h2⟩ := vU hv hr' t w;rw [← hk];exact ⟨by simp [vX, h1], h2 _⟩
        · cases h
      · split at h
        · rename_i m n hm hn
          simp only [Ab, Option.some.injEq, Prod.mk.injEq] at h;obtain ⟨r, hr', rfl, rfl⟩ := h;rw [Ma hm, Ma hn];obtain ⟨h1, h2⟩ := vV hv hr' t w;exact ⟨by simp [T9, h1], h2 _⟩
        · obtain ⟨e, hce, h⟩ := Ab.1 h;split at h
          · rename_i l m hl hm
            obtain ⟨_, hg, h⟩ := Ab.1 h;obtain ⟨b, hb, rfl, rfl⟩ := vW h;have h1 := oM hv w 5 Op.maxDepth t p q b (by decide) hb;rw [(Wi hl).1, (Wi hm).1] at h1 ⊢;refine ⟨?_, by simp [V.lt]⟩;refine lI hce ?_ h1 ⟨rfl, rfl⟩;unfold nU at hg;obtain ⟨g, hg, hg2⟩ := Ab.1 hg;cases g with
            | true => cases hg2
            | false =>
              have hs : c.P.eqGuardType c.P.depth t = false := Option.some.inj (show some (c.P.eqGuardType c.P.depth t) = some false from hg);unfold eqGuard;rcases Su hce with ⟨rfl, rfl⟩ | ⟨rfl, rfl⟩ <;> simp [program, Sem.run, hs]
          · simp only [Ab, Option.some.injEq, Prod.mk.injEq] at h;obtain ⟨r, hr', rfl, rfl⟩ := h;exact ⟨T8 (r := r.1) (rs := r.2) hr' hr hce x y, by simp [V.lt]⟩
end
end Go.Proofs.YtbooaoddioibeaaGreatDoor.Jd

namespace Go.Proofs.YtbooaoddioibeaaGreatDoor.Jd
open Go.Proofs.Tryz
open Go.Proofs
open Go.RowKit (Below)
set_option linter.unusedVariables false
set_option linter.unusedSimpArgs false
section
variable {c : Dr} {b0 : World} {Mk : List Nat} {ρ : Au} {D : List Deferred} {s : St} {a : Act} {w : World} {ty : TypeId} {v : V} {rs : List RE}
def Sv : Option Value → Option Nat → Prop
  | none, none => True
  | some v, some n => ∃ k, v = .int k n
  | _, _ => False
theorem Cd (he : Gk ρ D s a) {x : Option Operand} {n : Option Nat} (h : Ke s x = some n) : Sv (x.map a.eval) n := by
  unfold Ke at h;split at h
  · simp only [Option.some.injEq] at h; subst h; trivial
  · split at h
    · rename_i u hu
      simp only [Ab, Option.some.injEq] at h;obtain ⟨m, hm, rfl⟩ := h;obtain ⟨k, rfl⟩ := dK hm;exact ⟨k, by simpa [V.den] using he.ev hu⟩
    · cases h
theorem Fi {P : Program} {k : IntKind} {n y : Nat} {code : BoundsCode} (h : n ≤ y) (w : World) : (Instr.sliceBound (.int k n) y code).run P w = .ok n w := by
  simp [Instr.sliceBound, asIntOf, h]
theorem Fu {P : Program} {b : Bool} {len cap : Nat} {lo hi mx : Option Value} {l h m : Option Nat} {r : Nat × Nat × Nat} (h1 : Sv lo l) (h2 : Sv hi h) (h3 : Sv mx m) (hg : h = none → m = none) (hb : Gc len cap l h m = some r) (w : World) :
    (Instr.sliceBounds b len cap lo hi mx).run P w = .ok r w ∧ r.2.2 ≤ cap ∧ r.2.1 ≤ r.2.2 ∧ r.1 ≤ r.2.1 := by
  unfold Gc at hb;simp only at hb;split at hb
  · rename_i hh
    simp only [Bool.and_eq_true, Nat.ble_eq] at hh;simp only [Option.some.injEq] at hb;subst hb;obtain ⟨g1, g2, g3⟩ := hh;refine ⟨?_, g1, g2, g3⟩;unfold Instr.sliceBounds;rcases mx with _ | mx <;> rcases m with _ | m <;> simp only [Sv] at h3 <;> rcases hi with _ | hi <;> rcases h with _ | h <;> simp only [Sv] at h2 <;> rcases lo with _ | lo <;> rcases l with _ | l <;> simp only [Sv] at h1 <;> simp only [Option.getD_some, Option.getD_none] at g1 g2 g3
    all_goals first
      | (have := hg rfl; simp at this; done)
      | (first | obtain ⟨k1, rfl⟩ := h1 | skip
         first | obtain ⟨k2, rfl⟩ := h2 | skip
         first | obtain ⟨k3, rfl⟩ := h3 | skip
         simp [Fi, g1, g2, g3])
  · cases hb
theorem Mb (he : Gk ρ D s a) {hi mx : Option Operand} {h m : Option Nat} (hk : S1 hi mx = true) (h2 : Ke s hi = some h) (h3 : Ke s mx = some m) : h = none → m = none := by
  intro e;subst e;have h2 := Cd he h2;have h3 := Cd he h3;cases hi with
  | some x => simp [Sv] at h2
  | none =>
    cases mx with
    | some y => simp [S1] at hk
    | none => cases m with
      | none => rfl
      | some m => simp [Sv] at h3
theorem lJ {r o k l m : Nat} : (if m = l then Addr.mk r o none else (Addr.mk r o none).add (l * k)) = ⟨r, (match Nat.beq m l with | true => o | false => o + l * k), none⟩ := by
  cases e : Nat.beq m l with
  | true => simp [Nat.eq_of_beq_eq_true e]
  | false =>
    have : ¬ m = l := fun h => by subst h; simp at e
    simp [this, Ay]
theorem E1 {r o k l m : Nat} : (if m = l then some (Addr.mk r o none) else some ((Addr.mk r o none).add (l * k))) = some ⟨r, (match Nat.beq m l with | true => o | false => o + l * k), none⟩ := by
  rw [← lJ]; split <;> rfl
theorem oN {i : Nat} {m0 : Option Nat} {top : Nat} (h : S0 s i m0 = some top) : ∃ t k xs, s.blk i = some (.own t k xs) ∧ top ≤ xs.length ∧ (∀ m, m0 = some m → top = m) ∧ (m0 = none → top = xs.length) := by
  unfold S0 at h;split at h
  · rename_i t k xs hb
    split at h
    · simp only [Option.some.injEq] at h; subst h; exact ⟨t, k, xs, hb, Nat.le_refl _, fun m h => by simp at h, fun _ => rfl⟩
    · rename_i m
      split at h
      · rename_i hm
        simp only [Option.some.injEq] at h;subst h;exact ⟨t, k, xs, hb, by simpa using hm, fun m' h => by simpa using h, fun h => by simp at h⟩
      · cases h
  · cases h
theorem Vk {n d C : Nat} {l h m : Option Nat} {r : Nat × Nat × Nat} (hb : Gc n d l h (match m with | none => some d | m => m) = some r) (hd : d ≤ C) : Gc n C l h m = some (r.1, r.2.1, m.getD C) ∧ r.2.2 = m.getD d := by
  unfold Gc at hb ⊢;simp only at hb ⊢;split at hb
  · rename_i hh
    simp only [Bool.and_eq_true, Nat.ble_eq] at hh;simp only [Option.some.injEq] at hb;subst hb;cases m with
    | none =>
      simp only [Option.getD_some, Option.getD_none] at hh ⊢;have : (Nat.ble C C && (Nat.ble (h.getD n) C && Nat.ble (l.getD 0) (h.getD n))) = true := by simp; omega
      simp [this]
    | some m =>
      simp only [Option.getD_some] at hh ⊢;have : (Nat.ble m C && (Nat.ble (h.getD n) m && Nat.ble (l.getD 0) (h.getD n))) = true := by simp; omega
      simp [this]
  · cases hb
theorem E2 {i j k n : Nat} {m0 : Option Nat} {l h m' C : Nat} (hC : C = m0.getD (ρ.own i).2 - j) (hj : j ≤ m0.getD (ρ.own i).2) {M : Option Nat} (hM : M.getD (ρ.own i).2 = j + m') (hl : l ≤ m') (hmC : m' ≤ C) (hz : j = 0 ∨ l < m') :
    Value.slice (if m' = l then (if m0.getD (ρ.own i).2 = j then (ρ.own i).1 else (ρ.own i).1.map (·.add (j * k))) else (if m0.getD (ρ.own i).2 = j then (ρ.own i).1 else (ρ.own i).1.map (·.add (j * k))).map (·.add (l * k))) (h - l) (m' - l)
      = (V.osl i (j + l) k (h - l) M).den ρ := by
  have add0 : ∀ x : Option Addr, x.map (·.add 0) = x := fun x => by cases x <;> simp [Addr.add]
  have addA : ∀ (x : Option Addr) (p q : Nat), (x.map (·.add p)).map (·.add q) = x.map (·.add (p + q)) := fun x p q => by
    cases x with
    | none => rfl
    | some x => by_cases e1 : p = 0 <;> by_cases e2 : q = 0 <;> simp [Addr.add, Nat.add_assoc, e1, e2]
  simp only [V.den];rw [hM];have e1 : j + m' - (j + l) = m' - l := by omega
  rw [e1];congr 1;by_cases e : m' = l
  · have : j = 0 := by omega
    subst this;simp [e, add0]
  · have e2 : ¬ j + m' = j + l := by omega
    have e3 : ¬ m0.getD (ρ.own i).2 = j := by omega
    simp only [e, e2, e3, if_false];rw [addA, ← Nat.add_mul]
theorem E3 {i j k T l : Nat} (hj : j < T) (hT : T ≤ (ρ.own i).2) (hl : l = T - j) :
    Value.slice (if (ρ.own i).2 - j = l then (if (ρ.own i).2 = j then (ρ.own i).1 else (ρ.own i).1.map (·.add (j * k))) else (if (ρ.own i).2 = j then (ρ.own i).1 else (ρ.own i).1.map (·.add (j * k))).map (·.add (l * k))) (l - l) ((ρ.own i).2 - j - l)
      = (V.esl i T j k).den ρ := by
  have addA : ∀ (x : Option Addr) (p q : Nat), (x.map (·.add p)).map (·.add q) = x.map (·.add (p + q)) := fun x p q => by
    cases x with
    | none => rfl
    | some x => by_cases e1 : p = 0 <;> by_cases e2 : q = 0 <;> simp [Addr.add, Nat.add_assoc, e1, e2]
  have e0 : ¬ (ρ.own i).2 = j := by omega
  simp only [V.den, if_neg e0];rw [Nat.sub_self, show (ρ.own i).2 - j - l = (ρ.own i).2 - T by omega];congr 1;by_cases e : (ρ.own i).2 = T
  · rw [if_pos z6, if_pos e]
  · rw [if_neg z6, if_neg e, addA, ← Nat.add_mul, show j + l = T by omega]
theorem aT : ∀ {l : List Pc} {b : List UInt8}, Qy l = some b → Aq ρ.iv ρ.sv l = b
  | [], b, h => by simp only [Qy, Option.some.injEq] at h; subst h; rfl
  | .lit x :: r, b, h => by
    simp only [Qy, Ab, Option.some.injEq] at h;obtain ⟨y, hy, rfl⟩ := h;simp only [Aq, Pc.den, aT hy]
  | .byt _ :: _, b, h => by simp [Qy] at h
  | .var _ :: _, b, h => by simp [Qy] at h
theorem Uh (l : List Pc) : (R8 l).den ρ = .string ⟨(Aq ρ.iv ρ.sv l).toArray⟩ ∧ ∀ n, (R8 l).lt n := by
  unfold R8;split
  · rename_i b hb; rw [aT hb]; exact ⟨rfl, fun n => by simp [V.lt]⟩
  · exact ⟨rfl, fun n => by simp [V.lt]⟩
theorem oO (he : Gk ρ D s a) {x : Option Operand} {d l : Lin} (h : uK s d x = some l) : (x.map a.eval = none ∧ l = d) ∨ ∃ k, x.map a.eval = some (.int k (l.den ρ.iv)) := by
  cases x with
  | none => simp only [uK, Option.some.injEq] at h; exact .inl ⟨rfl, h.symm⟩
  | some x =>
    simp only [uK, Ab, Option.some.injEq] at h;obtain ⟨v, hv, p, hp, rfl⟩ := h;exact .inr ⟨p.1, by rw [Option.map_some, he.ev hv, Gd hp]⟩
theorem qR (hv : Hc c.B ρ.iv ρ.sv) (he : Gk ρ D s a) {t : TypeId} {x : Operand} {lo hi mx : Option Operand} (h : uP c s t x lo hi mx = some (v, rs)) (hr : Rd b0 Mk ρ s rs w) : Yw c.P ρ s.n a w (.slice t x lo hi mx) ty v := by
  obtain ⟨hk, h⟩ := Ch.1 h;simp only [nW, Ab] at h;obtain ⟨u, hu, h⟩ := h;have e1 := he.ev hu;have l1 := he.lt hu
  suffices hh : (Instr.sliceAt t (u.den ρ) (lo.map a.eval) (hi.map a.eval) (mx.map a.eval)).run c.P w = .ok (v.den ρ) w ∧ v.lt s.n from ⟨by simp [Bq, execOp, e1, hh.1], hh.2⟩
  split at h
  · rename_i b
    split at h
    · split at h
      · rename_i l m hl hm
        obtain ⟨_, hS, h⟩ := Ab.1 h;simp only [Ab, Ca] at h;obtain ⟨r, hr', rfl, rfl⟩ := h;have := (Fu (P := c.P) (b := false) (Cd he hl) (Cd he hm) (mx := none) (m := none) trivial (fun _ => rfl) hr' w).1;refine ⟨?_, by simp [V.lt]⟩;simp [Instr.sliceAt, Hm hS, Instr.slice, V.den, this]
      · cases h
    · cases h
  · rename_i p
    split at h
    · simp only [Ab] at h;obtain ⟨_, hS, n, hn, l, hl, e, he', h⟩ := h;split at h
      · rename_i hc
        simp only [Bool.and_eq_true] at hc;have c1 := Hx hv hc.1;have c2 := Ix hv hc.2;simp only [Ab, Ca] at h;obtain ⟨p1, hp1, p2, hp2, rfl, rfl⟩ := h;have hlen := Ei hv hn;obtain ⟨a1, f1, f2⟩ := gM hv z6 hp1;obtain ⟨a2, f3, f4⟩ := Xn hv c1 hp2;refine ⟨?_, (Uh (ρ := ρ) p2).2 _⟩;rw [(Uh (ρ := ρ) p2).1];obtain ⟨lN, hlN⟩ : ∃ m : Nat, l.den ρ.iv = m := ⟨(l.den ρ.iv).toNat, by omega⟩
        obtain ⟨hN, hhN⟩ : ∃ m : Nat, e.den ρ.iv = m := ⟨(e.den ρ.iv).toNat, by omega⟩
        have hle : hN ≤ (bs (Aq ρ.iv ρ.sv p)).size := by rw [Eh, f1, List.length_append]; omega
        have hlh : lN ≤ hN := by omega
        have hB : (Instr.sliceBounds false (bs (Aq ρ.iv ρ.sv p)).size (bs (Aq ρ.iv ρ.sv p)).size (lo.map a.eval) (hi.map a.eval) none).run c.P w = .ok (lN, hN, (bs (Aq ρ.iv ρ.sv p)).size) w := by
          unfold Instr.sliceBounds;rcases oO he hl with ⟨g1, g2⟩ | ⟨k1, g1⟩ <;> rcases oO he he' with ⟨g3, g4⟩ | ⟨k2, g3⟩ <;> rw [g1, g3]
          · subst g2 g4;rw [Lin.den_const] at hlN;have z : lN = 0 := by omega
            have z2 : (bs (Aq ρ.iv ρ.sv p)).size = hN := by rw [Eh]; omega
            subst z;simp [z2]
          · subst g2;rw [Lin.den_const] at hlN;have z : lN = 0 := by omega
            subst z;simp [hhN, Fi hle]
          · subst g4;have z2 : (bs (Aq ρ.iv ρ.sv p)).size = hN := by rw [Eh]; omega
            simp [hlN, z2, Fi hlh]
          · simp [hlN, hhN, Fi hle, Fi hlh]
        show (Instr.sliceAt t (.string (bs (Aq ρ.iv ρ.sv p))) (lo.map a.eval) (hi.map a.eval) none).run c.P w = .ok (.string (bs (Aq ρ.iv ρ.sv p2))) w
        have hx : (bs (Aq ρ.iv ρ.sv p)).extract lN hN = bs (Aq ρ.iv ρ.sv p2) := by
          rw [Iv, f1, List.take_append_of_le_length z6, List.take_of_length_le z6, f3, List.drop_append_of_le_length z6, List.drop_of_length_le z6];rfl
        simp [Instr.sliceAt, Hm hS, Instr.slice, hB, hx]
      · cases h
    · cases h
  · rename_i i o n cp
    simp only [Ab, Ca] at h;obtain ⟨e, hE, k, hK, l, hl, h', hh', m, hm, r, hr', rfl, rfl⟩ := h;obtain ⟨g1, g2, g3, g4⟩ := Fu (P := c.P) (b := true) (Cd he hl) (Cd he hh') (Cd he hm) (Mb he hk hh' hm) hr' w;refine ⟨?_, by simpa [V.lt] using l1⟩;simp only [Instr.sliceAt, Sem.run_bind, Bj hE, Result.andThen_ok, Instr.slice, V.den, g1, Cy hK, Sem.run_pure, Option.map_some];rw [E1];rfl
  · rename_i i j k n m0
    simp only [Ab] at h;obtain ⟨e, hE, k', hK, l, hl, h', hh', m, hm, top, htop, r, hr', h⟩ := h;split at h
    · rename_i hc
      simp only [Bool.and_eq_true, Bool.or_eq_true, Nat.ble_eq, Nat.beq_eq, Nat.blt_eq, beq_iff_eq] at hc;obtain ⟨rfl, hj, hz⟩ := hc;simp only [Option.some.injEq, Prod.mk.injEq] at h;obtain ⟨rfl, rfl⟩ := h;obtain ⟨t', k', xs, hb, ht1, ht2, ht3⟩ := oN htop;obtain ⟨B, hB, hw⟩ := hr.one List.mem_cons_self hb;have hle := Bg.le hB.2.2;simp only [List.length_map] at hle;have htM : top ≤ m0.getD (ρ.own i).2 := by
        cases m0 with
        | none => simp only [Option.getD_none]; omega
        | some m => simp only [Option.getD_some]; exact Nat.le_of_eq (ht2 m rfl)
      obtain ⟨l9, hb2⟩ := Vk hr' (C := m0.getD (ρ.own i).2 - j) z6;obtain ⟨g1, g2, g3, g4⟩ := Fu (P := c.P) (b := true) (Cd he hl) (Cd he hh') (Cd he hm) (Mb he hk hh' hm) l9 w;simp only at g1 g2 g3 g4;refine ⟨?_, by simpa [V.lt] using l1⟩;simp only [Instr.sliceAt, Sem.run_bind, Bj hE, Result.andThen_ok, Instr.slice, V.den, g1, Cy hK, Sem.run_pure];have key := E2 (ρ := ρ) (i := i) (j := j) (k := k) (n := n) (m0 := m0) (l := r.1) (h := r.2.1) (m' := m.getD (m0.getD (ρ.own i).2 - j)) (C := m0.getD (ρ.own i).2 - j) (M := match (generalizing := false) m with | none => m0 | some m => some (j + m)) rfl z6 (by
        cases m with
        | none => simp only [Option.getD_none]; omega
        | some m => simp only [Option.getD_some]) z6 g2 (by
        rcases hz with hz | hz
        · exact .inl hz
        · right;cases m with
          | none => simp only [Option.getD_none] at hb2 ⊢; omega
          | some m => simp only [Option.getD_some] at hb2 ⊢; omega)
      simp only [V.den] at key;exact congrArg (Result.ok · w) key
    · split at h
      · split at h
        · rename_i hc
          simp only [Bool.and_eq_true, Nat.blt_eq, Nat.beq_eq] at hc;obtain ⟨hk1, hj, hl1⟩ := hc;subst hk1;simp only [Option.some.injEq, Prod.mk.injEq] at h;obtain ⟨rfl, rfl⟩ := h;obtain ⟨t', k', xs, hb, ht1, ht2, ht3⟩ := oN htop;obtain ⟨B, hB, hw⟩ := hr.one List.mem_cons_self hb;have hle := Bg.le hB.2.2;simp only [List.length_map] at hle;have ht0 := ht3 rfl;obtain ⟨l9, hb2⟩ := Vk (d := top - j) (m := none) hr' (C := (ρ.own i).2 - j) z6;obtain ⟨q1, q2, q3, q4⟩ := Fu (P := c.P) (b := true) (Cd he hl) (Cd he hh') (Cd he hm) (Mb he hk hh' hm) hr' w;obtain ⟨g1, g2, g3, g4⟩ := Fu (P := c.P) (b := true) (Cd he hl) (Cd he hh') (Cd he hm) (Mb he hk hh' hm) l9 w;simp only [Option.getD_none] at g1 g2 g3 g4 hb2 q2 q3 q4;have b9 : r.2.1 = r.1 := by omega
          refine ⟨?_, by simpa [V.lt] using l1⟩;have key := E3 (ρ := ρ) (i := i) (j := j) (k := k) (T := top) (l := r.1) hj z6 hl1;simp only [V.den, b9] at key g1;simp only [Instr.sliceAt, Sem.run_bind, Bj hE, Result.andThen_ok, Instr.slice, V.den, Option.getD_none, g1, Cy hK, Sem.run_pure];exact congrArg (Result.ok · w) key
        · cases h
      · cases h
  · rename_i i o
    split at h
    · rename_i n e hU
      simp only [Ab, Ca] at h;obtain ⟨k, hK, l, hl, h', hh', m, hm, r, hr', rfl, rfl⟩ := h;obtain ⟨g1, g2, g3, g4⟩ := Fu (P := c.P) (b := false) (Cd he hl) (Cd he hh') (Cd he hm) (Mb he hk hh' hm) hr' w;refine ⟨?_, by simpa [V.lt] using l1⟩;simp only [Instr.sliceAt, Sem.run_bind, Bs hU, Result.andThen_ok, V.den, Instr.sureAddr, g1, Cy hK, Sem.run_pure];rw [lJ];rfl
    · rename_i ar hU
      simp only [Ab, Ca] at h;obtain ⟨ne, hN, k, hK, l, hl, h', hh', m, hm, r, hr', rfl, rfl⟩ := h;obtain ⟨g1, g2, g3, g4⟩ := Fu (P := c.P) (b := false) (Cd he hl) (Cd he hh') (Cd he hm) (Mb he hk hh' hm) hr' w;refine ⟨?_, by simpa [V.lt] using l1⟩;simp only [Instr.sliceAt, Instr.slice, Sem.run_bind, Bs hU, Result.andThen_ok, V.den, asAddr, Sr hN, g1, Cy hK, Sem.run_pure];rw [lJ];rfl
    · cases h
  · simp only [Ab, Ca] at h;obtain ⟨e, hE, k, hK, l, hl, h', hh', m, hm, r, hr', rfl, rfl⟩ := h;obtain ⟨g1, g2, g3, g4⟩ := Fu (P := c.P) (b := true) (Cd he hl) (Cd he hh') (Cd he hm) (Mb he hk hh' hm) hr' w;refine ⟨?_, by simp [V.lt]⟩;have z1 : r.2.2 = 0 := by omega
    have z2 : r.2.1 = 0 := by omega
    have z3 : r.1 = 0 := by omega
    simp only [Instr.sliceAt, Sem.run_bind, Bj hE, Result.andThen_ok, Instr.slice, V.den, g1, Cy hK, Sem.run_pure, z1, z2, z3];rfl
  · cases h
end
end Go.Proofs.YtbooaoddioibeaaGreatDoor.Jd

namespace Go.Proofs.YtbooaoddioibeaaGreatDoor.Jd
open Go.Proofs.Tryz
open Go.Proofs
open Go.RowKit (Below)
set_option linter.unusedVariables false
set_option linter.unusedSimpArgs false
section
variable {c : Dr} {b0 : World} {Mk : List Nat} {ρ : Au} {D : List Deferred} {s : St} {a : Act} {w : World} {ty : TypeId} {v : V} {rs : List RE}
theorem Kv {k : Nat} : ∀ {xs : List (List V)} {i j : Nat} {x : List V} {v : V}, (∀ x ∈ xs, x.length = k) → xs[i]? = some x → x[j]? = some v → (Aw xs)[i * k + j]? = some v
  | [], i, j, x, v, _, h, _ => by simp at h
  | y :: r, 0, j, x, v, hk, h, hv => by
    simp only [List.getElem?_cons_zero, Option.some.injEq] at h;subst h;have := (List.getElem?_eq_some_iff.1 hv).1;rw [Dp, Nat.zero_mul, Nat.zero_add, List.getElem?_append_left this];exact hv
  | y :: r, i + 1, j, x, v, hk, h, hv => by
    simp only [List.getElem?_cons_succ] at h;have ih := Kv (fun x hx => hk x (List.mem_cons_of_mem _ hx)) h hv;have hy := hk y List.mem_cons_self;rw [Dp, List.getElem?_append_right (by rw [hy, Nat.succ_mul]; omega), hy];have : (i + 1) * k + j - k = i * k + j := by rw [Nat.succ_mul]; omega
    rw [this]; exact ih
theorem aU {i t k : Nat} {xs : List (List V)} {B : Ad} (hB : (O.own t k xs).is ρ i B) (hw : SH b0 Mk B w) {j : Nat} {u : V} (hj : (Aw xs)[j]? = some u) :
    ∃ r, (ρ.own i).1 = some ⟨r, 0, none⟩ ∧ w.cell? ⟨r, j, none⟩ = some (u.den ρ) := by
  obtain ⟨Tp, hx, hO⟩ := hB;rcases hO with ⟨h1, rfl, h3⟩ | ⟨r, cur, fz, h1, rfl, hfz, h2, h3, h4⟩
  · have : xs = [] := by simpa using h3
    subst this;simp [Dj] at hj
  · have hm : (r, Obj.cells cur t fz) ∈ [(r, Obj.cells cur t fz)] := List.mem_cons_self;have hb0 := hw.own _ hm;simp only at hb0;have hflat : Cw (Ue k) (xs.map (Ac ρ)) = Ac ρ (Aw xs) := by
      rw [Ef]; unfold Cw;congr 1;rw [List.map_map];refine List.map_congr_left fun x hxm => ?_
      obtain ⟨e1, e2⟩ := hx x hxm;exact Sh (by rw [Ag]; exact e1) e2
    rw [hflat] at h4;have hj : (Ac ρ (Aw xs))[j]? = some (u.den ρ) := by rw [Ez, hj]; rfl
    rw [← h4, List.getElem?_take] at hj;split at hj
    · exact ⟨r, h1, by simp only [World.cell?, hb0]; simpa using hj⟩
    · cases hj
theorem iK {j : Nat} {m : Option Nat} (h : nV j m = true) : ∀ C, j < C → ¬ m.getD C = j := by
  intro C hC;cases m with
  | none => simp only [Option.getD_none]; omega
  | some m => simp only [nV, Nat.blt_eq] at h; simp only [Option.getD_some]; omega
abbrev idE (y : List Value) : List Value := y
theorem Ui {k : Nat} {x : V} {xs : List (List V)} (h : Hy s k x = some (xs, rs)) (hk : Wd s) (hr : Rd b0 Mk ρ s rs w) :
    ((∃ a n cp, x.den ρ = .slice a n cp ∧ n = xs.length ∧ Sl w idE k a (xs.map (Ac ρ)) ∧ ∀ y ∈ xs, y.length = k) ∨ (∃ b, x = .raw (.string b) ∧ k = 1 ∧ xs = b.data.toList.map fun x => [.raw (.int .u8 x.toNat)])) ∧ ∀ y ∈ xs, Dh s.n y := by
  unfold Hy at h;split at h
  · simp only [Option.some.injEq, Prod.mk.injEq] at h;obtain ⟨rfl, rfl⟩ := h;exact ⟨.inl ⟨none, 0, 0, rfl, rfl, fun i x hx => by simp at hx, fun y hy => by cases hy⟩, fun y hy => by cases hy⟩
  · rename_i i o n cp
    split at h
    · rename_i l t f hb
      simp only [Ab, Option.some.injEq, Prod.mk.injEq] at h;obtain ⟨cs, hcs, xs', hxs, rfl, rfl⟩ := h;obtain ⟨c1, c2, c3⟩ := Ss _ _ _ hxs;obtain ⟨s1, s2⟩ := Il _ _ _ _ hcs;obtain ⟨B, rfl, hw⟩ := hr.one List.mem_cons_self hb;have hlt := oH (hk i _ hb).2 hcs;rw [c1, Du] at hlt;refine ⟨.inl ⟨_, _, _, rfl, c2.symm, fun i' x hx => ?_, c3⟩, hlt⟩;rw [List.getElem?_map] at hx;cases hy : xs'[i']? with
      | none => rw [hy] at hx; cases hx
      | some y =>
        rw [hy] at hx;simp only [Option.map_some, Option.some.injEq] at hx;subst hx;refine ⟨ρ.blk i, o, rfl, by rw [Ag]; exact c3 y (List.mem_of_getElem? hy), fun j v hv => ?_⟩;rw [Ez] at hv;cases hz : y[j]? with
        | none => rw [hz] at hv; cases hv
        | some z =>
          rw [hz] at hv;simp only [Option.map_some, Option.some.injEq] at hv;subst hv;have hg := Kv c3 hy hz;rw [← c1, s1, List.getElem?_take] at hg;split at hg
          · rw [List.getElem?_drop] at hg;have : (Ac ρ l)[o + i' * k + j]? = some (z.den ρ) := by rw [Ez, Nat.add_assoc, hg]; rfl
            exact hw.cell List.mem_cons_self this
          · cases hg
    · cases h
  · rename_i i j k0 n m
    split at h
    · rename_i t k' xs' hb
      split at h
      · rename_i hc
        simp only [Bool.and_eq_true, Bool.or_eq_true, Nat.ble_eq, Nat.beq_eq, beq_iff_eq] at hc;obtain ⟨rfl, rfl, hjn, hcap⟩ := hc;simp only [Option.some.injEq, Prod.mk.injEq] at h;obtain ⟨rfl, rfl⟩ := h;obtain ⟨B, hB, hw⟩ := hr.one List.mem_cons_self hb;have hle := Bg.le hB.2.2;simp only [List.length_map] at hle;have hxk : ∀ y ∈ xs', y.length = k := fun y hy => (hB.2.1 y hy).1
        refine ⟨.inl ⟨_, _, _, rfl, by simp; omega, fun i' x hx => ?_, fun y hy => hxk y (List.mem_of_mem_drop (List.mem_of_mem_take hy))⟩, fun y hy => (hk i _ hb).2 y (List.mem_of_mem_drop (List.mem_of_mem_take hy))⟩;rw [List.getElem?_map] at hx;cases hy : ((xs'.drop j).take n)[i']? with
        | none => rw [hy] at hx; cases hx
        | some y =>
          rw [hy] at hx;simp only [Option.map_some, Option.some.injEq] at hx;subst hx;rw [List.getElem?_take] at hy;split at hy
          · rename_i hi'
            rw [List.getElem?_drop] at hy;have hyk := hxk y (List.mem_of_getElem? hy);have hpos := hB.1;obtain ⟨z0, g0⟩ : ∃ z, y[0]? = some z := ⟨y[0]'z6, List.getElem?_eq_getElem _⟩
            obtain ⟨r, b6, _⟩ := aU hB hw (Kv hxk hy g0);have hne : ¬ m.getD (ρ.own i).2 = j := iK (hcap.resolve_left z6) _ z6;refine ⟨r, j * k, ?_, by rw [Ag]; exact hyk, fun j' v hv => ?_⟩
            · rw [if_neg hne, b6, Option.map_some, Ay, Nat.zero_add]
            · rw [Ez] at hv;cases hz : y[j']? with
              | none => rw [hz] at hv; cases hv
              | some z =>
                rw [hz] at hv;simp only [Option.map_some, Option.some.injEq] at hv;subst hv;obtain ⟨r', b9, hcell⟩ := aU hB hw (Kv hxk hy hz);rw [b6] at b9;simp only [Option.some.injEq, Addr.mk.injEq, and_true] at b9;subst b9;have : j * k + i' * k + j' = (j + i') * k + j' := by rw [Nat.add_mul]
                rw [this]; exact hcell
          · cases hy
      · cases h
    · cases h
  · rename_i b
    split at h
    · rename_i hk1
      simp only [Option.some.injEq, Prod.mk.injEq] at h;obtain ⟨rfl, rfl⟩ := h;refine ⟨.inr ⟨b, rfl, Nat.eq_of_beq_eq_true hk1, rfl⟩, fun y hy => ?_⟩;obtain ⟨x, _, rfl⟩ := List.mem_map.1 hy;simp [Dh, V.lt]
    · cases h
  · cases h
theorem qS {x : List V} {p : Pc} (h : kT x = some p) : ∃ n : Int, Ac ρ x = [.int .u8 n] ∧ p.den ρ.iv ρ.sv = [UInt8.ofNat n.toNat] := by
  unfold kT at h;split at h
  · rename_i n
    simp only [Option.some.injEq] at h; subst h;exact ⟨n, rfl, rfl⟩
  · rename_i e
    simp only [Option.some.injEq] at h; subst h;exact ⟨e.den ρ.iv, rfl, rfl⟩
  · cases h
theorem Xy : ∀ {xs : List (List V)} {l : List Pc}, Sk xs = some l → ∃ ns : List Int, xs.map (Ac ρ) = ns.map (fun n => [Value.int .u8 n]) ∧ Aq ρ.iv ρ.sv l = gH ns
  | [], l, h => by simp only [Sk, Option.some.injEq] at h; subst h; exact ⟨[], rfl, rfl⟩
  | x :: r, l, h => by
    simp only [Sk, Ab, Option.some.injEq] at h;obtain ⟨p, hp, l', hl, rfl⟩ := h;obtain ⟨n, h1, h2⟩ := qS (ρ := ρ) hp;obtain ⟨ns, h3, h4⟩ := Xy hl;exact ⟨n :: ns, by simp [h1, h3], by simp [Aq, h2, h4, gH]⟩
theorem vY (hv : Hc c.B ρ.iv ρ.sv) (hk : Wd s) (he : Gk ρ D s a) {src dst : TypeId} {x : Operand} (h : uN c s src dst x = some (v, rs)) (hr : Rd b0 Mk ρ s rs w) : Yw c.P ρ s.n a w (.convert src dst x) ty v := by
  simp only [uN, Ab] at h;obtain ⟨u, hu, h⟩ := h;have e1 := he.ev hu;have l1 := he.lt hu
  suffices hh : (convert src dst (u.den ρ)).run c.P w = .ok (v.den ρ) w ∧ v.lt s.n from ⟨by simp [Bq, execOp, e1, hh.1], hh.2⟩
  split at h
  · simp only [Ab, Ca] at h;obtain ⟨r, hr', rfl, rfl⟩ := h;exact ⟨Dd hr' w, by simp [V.lt]⟩
  · rename_i k e
    obtain ⟨d0, hd0, h⟩ := Ab.1 h;split at h
    · rename_i k' hU
      simp only [Ab, Ca] at h;obtain ⟨r, hr', rfl, rfl⟩ := h;obtain ⟨h1, h2⟩ := Pq hv hr';refine ⟨?_, h2 _⟩;rw [h1];simp [convert, Bs hd0, Bs hU, V.den, Conv.intToInt]
    · cases h
  · rename_i l
    simp only [Ab, Ca] at h;obtain ⟨_, hs, _, hd, rfl, rfl⟩ := h;exact ⟨by simp [convert, Hm hs, Hm hd, V.den], by simp [V.lt]⟩
  · simp only [Ab, Option.some.injEq, Prod.mk.injEq] at h;obtain ⟨e, hE, _, hd, _, h8, p, hp, l, hl, rfl, rfl⟩ := h;obtain ⟨h1, h2⟩ := Ui hp hk hr;refine ⟨?_, (Uh (ρ := ρ) l).2 _⟩;rw [(Uh (ρ := ρ) l).1];rcases h1 with ⟨ad, n, cp, g1, g2, g3, g4⟩ | ⟨b, rfl, _⟩
    · obtain ⟨ns, f1, f2⟩ := Xy (ρ := ρ) hl;rw [f1] at g3;have hn : n = ns.length := by rw [g2]; have := congrArg List.length f1; simpa using this
      rw [g1, f2];have key : (Conv.bytesToString (.slice ad n cp)).run c.P w = .ok (.string (bs (gH ns))) w := by
        rcases ad with _ | ad
        · have : ns = [] := by
            cases ns with
            | nil => rfl
            | cons z r => obtain ⟨b, o, h, _⟩ := g3 0 _ (by simp; rfl); cases h
          subst this;simp [Conv.bytesToString, gH, bs];rfl
        · have hl : (loadCells ad ns.length).run c.P w = .ok (ns.map (Value.int .u8)).toArray w := by
            have := run_loadCells_list (P := c.P) w ad (aI .u8 ns) (fun j u hj => by
              have hj : (ns.map (Value.int .u8))[j]? = some u := hj;rw [List.getElem?_map] at hj;cases hz : ns[j]? with
              | none => rw [hz] at hj; cases hj
              | some z =>
                rw [hz] at hj;simp only [Option.map_some, Option.some.injEq] at hj;subst hj;obtain ⟨b, o, g5, _, g6⟩ := g3 j [.int .u8 z] (by rw [List.getElem?_map, hz]; rfl);cases g5
                have := g6 0 _ rfl;rw [Ay];simpa using this)
            rw [Ed] at this;exact this
          rw [hn, run_bytesToString w ad ns.length cp ns hl, Qu];simp
      show (convert src dst (.slice ad n cp)).run c.P w = .ok (.string (bs (gH ns))) w
      simp [convert, Bj hE, Hm hd, D4 h8, key]
    · exact (‹∀ a, V.raw (Value.string b) = V.raw a → False› _ rfl).elim
end
end Go.Proofs.YtbooaoddioibeaaGreatDoor.Jd

namespace Go.Proofs.YtbooaoddioibeaaGreatDoor.Jd
open Go.Proofs.Tryz
open Go.Proofs
open Go.RowKit (Below)
set_option linter.unusedVariables false
set_option linter.unusedSimpArgs false
section
variable {c : Dr} {b0 : World} {Mk : List Nat} {ρ : Au} {D : List Deferred} {s : St} {a : Act} {w : World} {ty : TypeId} {v : V} {rs : List RE}
theorem vZ (hk : Wd s) (he : Gk ρ D s a) {t : TypeId} {x ix : Operand} (h : uQ c s t x ix = some (v, rs)) (hr : Rd b0 Mk ρ s rs w) : Yw c.P ρ s.n a w (.indexAddr t x ix) ty v := by
  simp only [uQ, Ab] at h;obtain ⟨u, hu, i', hi, h⟩ := h;have e1 := he.ev hu;have l1 := he.lt hu;have e2 := he.ev hi;split at h
  · rename_i iv
    rw [Ab] at h;obtain ⟨m, hm, h⟩ := h;obtain ⟨k', rfl⟩ := dK hm;simp only [V.den] at e2;split at h
    · rename_i i o n cp
      simp only [Ab] at h;obtain ⟨e, hE, k, hK, h⟩ := h;split at h
      · rename_i hlt
        simp only [Nat.blt_eq] at hlt;simp only [Ca] at h;obtain ⟨rfl, rfl⟩ := h;exact ⟨by simp [Bq, execOp, e1, e2, Instr.indexAt, asIntOf, V.den, Bj hE, Cy hK, hlt, Ay], by simpa [V.lt] using l1⟩
      · cases h
    · rename_i i j k0 n m0
      simp only [Ab] at h;obtain ⟨e, hE, k, hK, h⟩ := h;split at h
      · rename_i t' k'' xs hb
        split at h
        · rename_i hc
          simp only [Bool.and_eq_true, Nat.ble_eq, Nat.beq_eq, Nat.blt_eq, beq_iff_eq] at hc;obtain ⟨hlt, hle, rfl, rfl, hcap⟩ := hc;simp only [Option.some.injEq, Prod.mk.injEq] at h;obtain ⟨rfl, rfl⟩ := h;obtain ⟨B, hB, hw⟩ := hr.one List.mem_cons_self hb;obtain ⟨r, b6⟩ := iJ hB z6;have m5 := Bg.le hB.2.2;simp only [List.length_map] at m5;have hne : ¬ m0.getD (ρ.own i).2 = j := iK hcap _ z6;refine ⟨?_, by simpa [V.lt] using l1⟩;have ed : (V.osl i j k n m0).den ρ = .slice (some ⟨r, j * k, none⟩) n (m0.getD (ρ.own i).2 - j) := by
            simp [V.den, hne, b6, Ay]
          have ev' : (V.optr i ((j + m) * k)).den ρ = .pointer (some ⟨r, j * k + m * k, none⟩) := by
            simp [V.den, b6, ea, Nat.add_mul]
          rw [ed] at e1;rw [ev'];simp [Bq, execOp, e1, e2, Instr.indexAt, asIntOf, Bj hE, Cy hK, hlt, Ay]
        · cases h
      · cases h
    · rename_i i o
      simp only [Ab] at h;obtain ⟨ne, hE, k, hK, h⟩ := h;split at h
      · rename_i hlt
        simp only [Nat.blt_eq] at hlt;simp only [Ca] at h;obtain ⟨rfl, rfl⟩ := h;exact ⟨by simp [Bq, execOp, e1, e2, Instr.indexAt, Instr.sureAddr, asIntOf, V.den, Sr hE, Cy hK, hlt, Ay], by simpa [V.lt] using l1⟩
      · cases h
    · rename_i g o
      simp only [Ab] at h;obtain ⟨ne, hE, k, hK, h⟩ := h;split at h
      · rename_i hlt
        simp only [Nat.blt_eq] at hlt;simp only [Ca] at h;obtain ⟨rfl, rfl⟩ := h;exact ⟨by simp [Bq, execOp, e1, e2, Instr.indexAt, Instr.sureAddr, asIntOf, V.den, Sr hE, Cy hK, hlt, Ay], by simp [V.lt]⟩
      · cases h
    · cases h
  · cases h
theorem wA {p q r : List UInt8} {n : Nat} (h : p = q ++ r) (hn : q.length = n) (k : Nat) : p[n + k]? = r[k]? := by
  subst h hn;rw [List.getElem?_append_right z6]; congr 1; omega
theorem E4 (hv : Hc c.B ρ.iv ρ.sv) (he : Gk ρ D s a) {t : TypeId} {x ix : Operand} (h : S3 c s t x ix = some (v, rs)) : Yw c.P ρ s.n a w (.index t x ix) ty v := by
  simp only [S3, Ab] at h;obtain ⟨u, hu, i', hi, h⟩ := h;have e1 := he.ev hu;have l1 := he.lt hu;have e2 := he.ev hi
  suffices hh : (Instr.index t (u.den ρ) (i'.den ρ)).run c.P w = .ok (v.den ρ) w ∧ v.lt s.n from ⟨by simp [Bq, execOp, e1, e2, hh.1], hh.2⟩
  split at h
  · split at h
    · simp only [Ab, Ca] at h;obtain ⟨r, hr', rfl, rfl⟩ := h;exact ⟨Dd hr' w, by simp [V.lt]⟩
    · cases h
  · rename_i cs
    split at h
    · rename_i iv
      simp only [Ab] at h;obtain ⟨m, hm, ne, hE, k, hK, h⟩ := h;obtain ⟨k', rfl⟩ := dK hm;split at h
      · rename_i hlt
        simp only [Nat.blt_eq] at hlt;simp only [Ab, Ca] at h;obtain ⟨r, hr', rfl, rfl⟩ := h;exact ⟨by simp [Instr.index, asIntOf, V.den, Sr hE, Cy hK, hlt, Wf hr'], Ku (by simpa [V.lt] using l1) hr'⟩
      · cases h
    · cases h
  · rename_i p
    obtain ⟨_, hS, h⟩ := Ab.1 h;obtain ⟨e, hE, h⟩ := Ab.1 h;split at h
    · rename_i hg
      have h0 := Hx hv hg;obtain ⟨r, hr', h⟩ := Ab.1 h;obtain ⟨a1, f1, f2⟩ := Xn hv h0 hr';obtain ⟨n, hn⟩ : ∃ n : Nat, e.2.den ρ.iv = n := ⟨(e.2.den ρ.iv).toNat, by omega⟩
      have key : ∀ b, (Aq ρ.iv ρ.sv r)[0]? = some b → (Instr.index t ((V.ss p).den ρ) (i'.den ρ)).run c.P w = .ok (.int .u8 b.toNat) w := fun b hb => by
        have hg2 := wA f1 (n := n) z6 0;rw [hb, Nat.add_zero, ← sV] at hg2;rw [Gd hE, hn];show (Instr.index t (.string (bs (Aq ρ.iv ρ.sv p))) (.int e.1 n)).run c.P w = _
        simp [Instr.index, asIntOf, Hm hS, hg2]
      split at h
      · rename_i b l r'
        simp only [Ca] at h;obtain ⟨rfl, rfl⟩ := h;exact ⟨key b rfl, by simp [V.lt]⟩
      · rename_i e' r'
        split at h
        · rename_i hb
          simp only [Ca] at h;obtain ⟨rfl, rfl⟩ := h;refine ⟨?_, by simp [V.lt]⟩;rw [key (tX (e'.den ρ.iv)) rfl];obtain ⟨_, b9⟩ := aS hv hb;rcases b9 with b9 | ⟨_, g1, g2⟩
          · cases b9
          · simp only [V.den];congr 2;unfold tX;have : (e'.den ρ.iv).toNat < 256 := by omega
            simp only [UInt8.toNat_ofNat', Nat.reducePow];rw [Nat.mod_eq_of_lt this];omega
        · cases h
      · cases h
    · cases h
  · cases h

theorem Kg (ok : Bool) (v : V) (b : Bool) : (M6 ok v b).den ρ = (if ok then .tuple #[v.den ρ, .bool b] else v.den ρ) ∧ ∀ n, v.lt n → (M6 ok v b).lt n := by
  cases ok
  · exact ⟨rfl, fun n h => h⟩
  · exact ⟨rfl, fun n h => ⟨h, trivial, trivial⟩⟩
theorem Og {kd : TypeDesc} {b : Bool} {n : Nat} {t : TypeId} {v : Value} {P : Program} (h : gU kd = true) (hU : ∀ w, (underlying t).run P w = .ok kd w) (w : World) : (Instr.checkKey b (n + 1) t v).run P w = .ok () w := by
  cases kd <;> simp [gU] at h <;> simp [Instr.checkKey, hU]
theorem iL {kd : TypeDesc} {k : Value} : ∀ {es : List (V × V × Nat)} {r : Option V} (i : Nat), gV kd k es = some r → ∃ q, Instr.findNow kd k (es.map (Bo ρ)) i = some q ∧ q.map (·.2) = r.map (V.den ρ) ∧ ∀ n v, r = some v → (∀ e ∈ es, e.1.lt n ∧ e.2.1.lt n) → v.lt n
  | [], r, i, h => by
    simp only [gV, Option.some.injEq] at h; subst h;exact ⟨none, rfl, rfl, fun n v h => by cases h⟩
  | e :: es, r, i, h => by
    simp only [gV] at h;split at h
    · rename_i k' he
      have hek : (Bo ρ e).key = k' := by simp only [Bo, he, V.den]
      split at h
      · rename_i hs
        simp only [Option.some.injEq] at h; subst h;refine ⟨some (i, (Bo ρ e).val), by simp only [List.map_cons, Instr.findNow, hek, hs], rfl, fun n v h hl => ?_⟩;simp only [Option.some.injEq] at h; subst h;exact (hl e List.mem_cons_self).2
      · rename_i hs
        obtain ⟨q, h1, h2, h3⟩ := iL (i + 1) h;exact ⟨q, by simp only [List.map_cons, Instr.findNow, hek, hs, h1], h2, fun n v h hl => h3 n v h fun e he => hl e (List.mem_cons_of_mem _ he)⟩
      · cases h
    · cases h
theorem wB {x : V} {es : List (V × V × Nat)} (h : uL s x = some (es, rs)) (hk : Wd s) (hr : Rd b0 Mk ρ s rs w) :
    (x.den ρ = .map none ∧ es = [] ∨ ∃ r ck, x.den ρ = .map (some r) ∧ w.heap[r]? = some (.map (es.map (Bo ρ)).toArray ck)) ∧ ∀ e ∈ es, e.1.lt s.n ∧ e.2.1.lt s.n := by
  unfold uL at h;split at h
  · simp only [Option.some.injEq, Prod.mk.injEq] at h;obtain ⟨rfl, rfl⟩ := h;exact ⟨.inl ⟨rfl, rfl⟩, fun e he => by cases he⟩
  · rename_i i
    split at h
    · rename_i es' ck hb
      simp only [Option.some.injEq, Prod.mk.injEq] at h;obtain ⟨rfl, rfl⟩ := h;obtain ⟨B, rfl, hw⟩ := hr.one List.mem_cons_self hb;exact ⟨.inr ⟨_, ck, rfl, hw.own _ List.mem_cons_self⟩, (hk i _ hb).2⟩
    · cases h
  · cases h
theorem Uj {b : Bool} {u : Unit} (h : cW b = some u) : b = true := by
  cases b with
  | true => rfl
  | false => cases h
theorem wC (hk : Wd s) (he : Gk ρ D s a) {t : TypeId} {x ix : Operand} {ok : Bool} (h : uR c s t x ix ok = some (v, rs)) (hr : Rd b0 Mk ρ s rs w) : Yw c.P ρ s.n a w (.lookup t x ix ok) ty v := by
  simp only [uR, Ab] at h;obtain ⟨u, hu, i', hi, h⟩ := h;have e1 := he.ev hu;have e2 := he.ev hi
  suffices hh : (Instr.lookup t (u.den ρ) (i'.den ρ) ok).run c.P w = .ok (v.den ρ) w ∧ v.lt s.n from ⟨by simp [Bq, execOp, e1, e2, hh.1], hh.2⟩
  split at h
  · rename_i k
    simp only [Ab] at h;obtain ⟨ke, hM, kd, hK, _, hg, es, hes, r, hf, h⟩ := h;have hg := Uj hg;have hrs : es.2 = rs := by
      split at h
      · simp only [Option.some.injEq, Prod.mk.injEq] at h; exact h.2
      · simp only [Ab, Option.some.injEq, Prod.mk.injEq] at h;obtain ⟨z, hz, _, h⟩ := h; exact h
    subst hrs;obtain ⟨hx, hlt⟩ := wB (rs := es.2) (es := es.1) hes hk hr;obtain ⟨q, f1, f2, f3⟩ := iL (ρ := ρ) 0 hf;have hrun : ∀ z, (match r with | some y => y.den ρ = z ∧ v = M6 ok y true | none => (zeroValue ke.2).run c.P w = .ok z w ∧ v = M6 ok (.raw z) false) → (Instr.lookup t (u.den ρ) ((V.raw k).den ρ) ok).run c.P w = .ok (v.den ρ) w := fun z hz => by
      rcases hx with ⟨hx, f9⟩ | ⟨r', ck, hx, hw⟩
      · rw [f9] at f1;simp only [List.map_nil] at f1;rw [hx];simp only [Instr.lookup, Sem.run_bind, Hl hM, Result.andThen_ok, Sem.run_pure, V.den];rw [Og hg (Bs hK)];simp only [Result.andThen_ok, Instr.findKey, Sem.run_bind, Bs hK, f1, Sem.run_pure];cases r with
        | some y =>
          obtain ⟨rfl, rfl⟩ := hz;cases q with
          | none => simp at f2
          | some q =>
            simp only [Option.map_some, Option.some.injEq] at f2;rw [(Kg (ρ := ρ) ok y true).1, ← f2];simp
        | none =>
          obtain ⟨hz, rfl⟩ := hz;cases q with
          | some q => simp at f2
          | none =>
            rw [(Kg (ρ := ρ) ok _ false).1];simp [hz, V.den]
      · rw [hx];simp only [Instr.lookup, Sem.run_bind, Hl hM, Result.andThen_ok, Sem.run_pure, V.den, Da hw];rw [Og hg (Bs hK)];simp only [Result.andThen_ok, Instr.findKey, Sem.run_bind, Bs hK, f1, Sem.run_pure];cases r with
        | some y =>
          obtain ⟨rfl, rfl⟩ := hz;cases q with
          | none => simp at f2
          | some q =>
            simp only [Option.map_some, Option.some.injEq] at f2;rw [(Kg (ρ := ρ) ok y true).1, ← f2];simp
        | none =>
          obtain ⟨hz, rfl⟩ := hz;cases q with
          | some q => simp at f2
          | none =>
            rw [(Kg (ρ := ρ) ok _ false).1];simp [hz, V.den]
    split at h
    · rename_i y
      simp only [Option.some.injEq, Prod.mk.injEq] at h;obtain ⟨rfl, _⟩ := h;exact ⟨hrun _ ⟨rfl, rfl⟩, (Kg (ρ := ρ) _ _ _).2 _ (f3 _ _ rfl hlt)⟩
    · simp only [Ab, Option.some.injEq, Prod.mk.injEq] at h;obtain ⟨z, hz, rfl, _⟩ := h;exact ⟨hrun z ⟨Ly hz w, rfl⟩, (Kg (ρ := ρ) _ _ _).2 _ (by simp [V.lt])⟩
  · cases h
theorem lK (he : Gk ρ D s a) {x : Operand} {xT t : TypeId} {ok : Bool} (h : dB c s x xT t ok = some (v, rs)) : Yw c.P ρ s.n a w (.typeAssert x xT t ok) ty v := by
  simp only [dB, Ab] at h;obtain ⟨u, hu, h⟩ := h;have e1 := he.ev hu;have l1 := he.lt hu
  suffices hh : (Instr.typeAssert (u.den ρ) xT t ok).run c.P w = .ok (v.den ρ) w ∧ v.lt s.n from ⟨by simp [Bq, execOp, e1, hh.1], hh.2⟩
  split at h
  · simp only [Ab, Ca] at h;obtain ⟨r, hr', rfl, rfl⟩ := h;exact ⟨Dd hr' w, by simp [V.lt]⟩
  · rename_i u' v'
    obtain ⟨d, hd, h⟩ := Ab.1 h;have hU := Bs hd;have l2 : v'.lt s.n := by simpa [V.lt] using l1
    split at h
    · rename_i want
      obtain ⟨b, hb, h⟩ := Ab.1 h;have hb := Dd hb w;simp only [Sem.run_bind, Sem.run_pure] at hb;cases hT : (typeInfo u').run c.P w with
      | ok info w2 =>
        rw [hT] at hb;simp only [Result.andThen_ok, Result.ok.injEq] at hb;obtain ⟨hb, rfl⟩ := hb;cases hmm : Instr.missingMethod want info.methods with
        | none =>
          rw [hmm] at hb;simp only [Option.isNone_none] at hb;subst hb;simp only [Ca] at h;obtain ⟨rfl, rfl⟩ := h;refine ⟨?_, (Kg (ρ := ρ) _ _ _).2 _ l1⟩;rw [(Kg (ρ := ρ) _ _ _).1];simp [Instr.typeAssert, hU, V.den, hT, hmm]
        | some m =>
          rw [hmm] at hb;simp only [Option.isNone_some] at hb;subst hb;split at h
          · rename_i hf; cases hf
          · split at h
            · simp only [Ab, Ca] at h;obtain ⟨z, hz, rfl, rfl⟩ := h;exact ⟨by simp [Instr.typeAssert, hU, V.den, hT, hmm, Ly hz, Ac], by simp [V.lt, Dh]⟩
            · cases h
      | _ => rw [hT] at hb; simp [Result.andThen] at hb
    · rename_i hni
      have hrun : ∀ r, (if u' = t then (if ok then .tuple #[v'.den ρ, .bool true] else v'.den ρ) = r else ok = true ∧ ∃ z, (zeroValue t).run c.P w = .ok z w ∧ r = .tuple #[z, .bool false]) → (Instr.typeAssert ((V.ifc u' v').den ρ) xT t ok).run c.P w = .ok r w := fun r hh => by
        have e0 : (Instr.typeAssert (.iface u' (v'.den ρ)) xT t ok).run c.P w = Sem.run c.P (if u' = t then pure (if ok then .tuple #[v'.den ρ, .bool true] else v'.den ρ) else do
            if ok then pure (.tuple #[← zeroValue t, .bool false]) else runtimePanic (.typeAssertion (some xT) (some u') t "")) w := by
          simp only [Instr.typeAssert, Sem.run_bind, hU, Result.andThen_ok]
        show (Instr.typeAssert (.iface u' (v'.den ρ)) xT t ok).run c.P w = _
        rw [e0];split at hh
        · rename_i ht; rw [if_pos ht, hh]; try rfl
        · rename_i ht
          obtain ⟨rfl, z, hz, rfl⟩ := hh;simp [ht, hz]
      split at h
      · rename_i hb
        have ht := Nat.eq_of_beq_eq_true hb;simp only [Ca] at h;obtain ⟨rfl, rfl⟩ := h;exact ⟨hrun _ (by rw [(Kg (ρ := ρ) _ _ _).1, if_pos ht]), (Kg (ρ := ρ) _ _ _).2 _ l2⟩
      · rename_i hb
        have hne : ¬ u' = t := fun e => by subst e; simp at hb
        split at h
        · simp only [Ab, Ca] at h;obtain ⟨z, hz, rfl, rfl⟩ := h;exact ⟨hrun _ (by rw [if_neg hne]; exact ⟨rfl, z, Ly hz w, rfl⟩), by simp [V.lt, Dh]⟩
        · cases h
  · cases h
end
end Go.Proofs.YtbooaoddioibeaaGreatDoor.Jd

namespace Go.Proofs.YtbooaoddioibeaaGreatDoor.Jd
open Go.Proofs.Tryz
open Go.Proofs
open Go.RowKit (Below)
set_option linter.unusedVariables false
set_option linter.unusedSimpArgs false
section
variable {c : Dr} {b0 : World} {Mk : List Nat} {ρ : Au} {D : List Deferred} {s : St} {a : Act} {w : World} {ty : TypeId} {v : V} {rs : List RE}
theorem Sw {place f : Nat → Option (Nat × Nat)} (hf : ∀ i q, place i = some q → f i = some q) : ∀ {l : List (Nat × V)} {cells cs : List V}, aJ place cells l = some cs →
    Instr.fill f (Ac ρ cells).toArray (l.map fun p => (p.1, p.2.den ρ)) = some (Ac ρ cs).toArray ∧ ∀ n, Dh n cells → (∀ p ∈ l, p.2.lt n) → Dh n cs
  | [], cells, cs, h => by
    have h : some cells = some cs := h;simp only [Option.some.injEq] at h; subst h;exact ⟨rfl, fun n h _ => h⟩
  | (i, v) :: r, cells, cs, h => by
    have h : (Af (place i) fun q => Be (Nat.beq (Ap v).length q.2) (Af (Ny cells q.1 (Ap v)) fun cells' => aJ place cells' r) none) = some cs := h;simp only [Ab, Ch] at h;obtain ⟨q, hq, hl, l', hs, h⟩ := h;have hl := Nat.eq_of_beq_eq_true hl;obtain ⟨h1, h2, h3, h4⟩ := Lz ρ _ _ _ _ hs;obtain ⟨g1, g2⟩ := Sw hf h;refine ⟨?_, fun n hc hv => g2 n (h4 n hc (Ee (hv _ List.mem_cons_self))) fun p hp => hv p (List.mem_cons_of_mem _ hp)⟩;simp only [List.map_cons, Instr.fill, hf _ _ hq];have e1 : (v.den ρ).cells.size = q.2 := by rw [Bh, List.size_toArray, Di, Ag]; exact hl
    have e2 : ¬ (q.1 + q.2 > (Ac ρ cells).toArray.size) := by rw [List.size_toArray, Ag]; omega
    simp only [e1, ne_eq, not_true, decide_false, Bool.false_or, decide_eq_true_eq, e2, if_false];have := Qt (Ar (v.den ρ)) (Ac ρ cells) q.1 0 (by rw [Di, Ag, Ag]; omega);rw [Bh, show (Ar (v.den ρ)).toArray.zipIdx = ((Ar (v.den ρ)).zipIdx 0).toArray by simp];simp only [List.size_toArray, List.foldl_toArray'];simp only [Nat.add_zero] at this;rw [this, Di, h1];exact g1
theorem Uk (he : Gk ρ D s a) : ∀ {l : List (Nat × Operand)} {ps : List (Nat × V)}, Xq s.E l = some ps → (l.map fun p => (p.1, a.eval p.2)) = ps.map (fun p => (p.1, p.2.den ρ)) ∧ ∀ p ∈ ps, p.2.lt s.n
  | [], ps, h => by
    have h : some [] = some ps := h;simp only [Option.some.injEq] at h; subst h;exact ⟨rfl, fun p hp => by cases hp⟩
  | x :: r, ps, h => by
    have h : (Af (Fg s.E x.2) fun v => Af (Xq s.E r) fun l => some ((x.1, v) :: l)) = some ps := h;simp only [Ab, Option.some.injEq] at h;obtain ⟨u, hu, l, hl, rfl⟩ := h;obtain ⟨h1, h2⟩ := Uk he hl;refine ⟨by simp only [List.map_cons, h1, he.ev hu], fun p hp => ?_⟩;rcases List.mem_cons.1 hp with rfl | hp
    · exact he.lt hu
    · exact h2 p hp
theorem Gx (z : Value) : Ac ρ (Ap (.raw z)) = Ar z := by rw [← Di]; rfl
theorem qT (he : Gk ρ D s a) {t : TypeId} {parts : Array (Nat × Operand)} (h : kW c s t parts.toList = some (v, rs)) : Yw c.P ρ s.n a w (.build t parts) ty v := by
  simp only [kW, Ab] at h;obtain ⟨z, hz, ps, hp, h⟩ := h;obtain ⟨p1, p2⟩ := Uk he hp;have hz := Ly hz;have e : (parts.map fun p => (p.1, a.eval p.2)).toList = ps.map fun p => (p.1, p.2.den ρ) := by rw [Array.toList_map]; exact p1
  have hl0 : ∀ n, Dh n (Ap (.raw z)) := fun n => Ee (by simp [V.lt])
  suffices hh : (Instr.build t (parts.map fun p => (p.1, a.eval p.2))).run c.P w = .ok (v.den ρ) w ∧ v.lt s.n by
    refine ⟨?_, hh.2⟩;have h1 := hh.1;simp only [Bq, execOp, Sem.run_bind];have e : (parts.map fun x => match x with | (i, x) => (i, a.eval x)) = parts.map fun p => (p.1, a.eval p.2) := by
      congr 1
    rw [e, h1]; rfl
  split at h
  · rename_i fs hU
    simp only [Ab, Ca] at h;obtain ⟨pl, hpl, cs, hcs, rfl, rfl⟩ := h;obtain ⟨g1, g2⟩ := Sw (ρ := ρ) (f := fun i => pl.toArray[i]?) (fun i q hq => by rw [cO] at hq; simpa using hq) hcs;have hpl := Dd hpl w;have hM : (fs.mapM fun (f : Field) => do pure (f.offset, ← sizeOf f.type)).run c.P w = .ok pl.toArray w := by
      rw [Array.mapM_eq_mapM_toList, Sem.run_map, hpl]; rfl
    rw [Gx] at g1;refine ⟨?_, by simp only [V.lt]; exact g2 _ (hl0 _) p2⟩;simp only [Instr.build, Sem.run_bind, hz, Bs hU, Result.andThen_ok];rw [hM];simp only [Result.andThen_ok, Bh, e, g1, Sem.run_pure, V.den]
  · rename_i n el hU
    simp only [Ab, Ca] at h;obtain ⟨k, hk, cs, hcs, rfl, rfl⟩ := h;obtain ⟨g1, g2⟩ := Sw (ρ := ρ) (f := fun i => some (i * k, k)) (fun i q hq => hq) hcs;rw [Gx] at g1;refine ⟨?_, by simp only [V.lt]; exact g2 _ (hl0 _) p2⟩;simp only [Instr.build, Sem.run_bind, hz, Bs hU, Cy hk, Result.andThen_ok, Bh, e, g1, Sem.run_pure, V.den]
  · cases h

theorem E5 (hv : Hc c.B ρ.iv ρ.sv) {t : TypeId} {x : V} (h : S5 c s t x = some (v, rs)) (hr : Rd b0 Mk ρ s rs w) : (Builtin.len_ #[t] 0 #[x.den ρ]).run c.P w = .ok (v.den ρ) w ∧ ∀ n, v.lt n := by
  unfold S5 at h;split at h
  · obtain ⟨e, hE, h⟩ := Ab.1 h;simp only [Ca] at h;obtain ⟨rfl, rfl⟩ := h;exact ⟨by simp [Builtin.len_, Bj hE, V.den], fun n => by simp [V.lt]⟩
  · obtain ⟨e, hE, h⟩ := Ab.1 h;simp only [Ca] at h;obtain ⟨rfl, rfl⟩ := h;exact ⟨by simp [Builtin.len_, Bj hE, V.den], fun n => by simp [V.lt]⟩
  · obtain ⟨e, hE, h⟩ := Ab.1 h;simp only [Ca] at h;obtain ⟨rfl, rfl⟩ := h;exact ⟨by simp [Builtin.len_, Bj hE, V.den], fun n => by simp [V.lt]⟩
  · rename_i i
    obtain ⟨e, hE, h⟩ := Ab.1 h;split at h
    · rename_i es ck hb
      simp only [Option.some.injEq, Prod.mk.injEq] at h;obtain ⟨rfl, rfl⟩ := h;obtain ⟨B, rfl, hw⟩ := hr.one List.mem_cons_self hb;have := hw.own _ List.mem_cons_self;simp only at this;exact ⟨by simp [Builtin.len_, Hl hE, V.den, Da this], fun n => by simp [V.lt]⟩
    · cases h
  · rename_i p
    obtain ⟨_, hS, h⟩ := Ab.1 h;obtain ⟨n, hn, h⟩ := Ab.1 h;simp only [Ca] at h;obtain ⟨rfl, rfl⟩ := h;refine ⟨?_, Oe _ _⟩;rw [Jt, ← Ei hv hn, ← Eh];show (Builtin.len_ #[t] 0 #[.string (bs (Aq ρ.iv ρ.sv p))]).run c.P w = _
    simp [Builtin.len_, Hm hS, goInt]
  · obtain ⟨r, hr', h⟩ := Ab.1 h;simp only [Ca] at h;obtain ⟨rfl, rfl⟩ := h;exact ⟨Dd hr' w, fun n => by simp [V.lt]⟩
  · cases h
theorem U0 (hv : Hc c.B ρ.iv ρ.sv) {mx : Bool} {a b e : Lin} (h : mm2 c mx a b = some e) : e.den ρ.iv = if mx then (if a.den ρ.iv < b.den ρ.iv then b.den ρ.iv else a.den ρ.iv) else (if b.den ρ.iv < a.den ρ.iv then b.den ρ.iv else a.den ρ.iv) := by
  unfold mm2 at h;simp only [Dg] at h;split at h
  · rename_i hl
    have := Ix hv hl;simp only [Option.some.injEq] at h; subst h;cases mx <;> simp <;> intro _ <;> omega
  · split at h
    · rename_i hl
      have := Ix hv hl;simp only [Option.some.injEq] at h; subst h;cases mx <;> simp <;> intro _ <;> omega
    · cases h
theorem wD (hv : Hc c.B ρ.iv ρ.sv) {mx : Bool} {k : IntKind} : ∀ {l : List V} {a e : Lin}, mmL c mx k l a = some e → ((Ac ρ l).foldlM (if mx then Builtin.max2 else Builtin.min2) (.int k (a.den ρ.iv))).run c.P w = .ok (.int k (e.den ρ.iv)) w
  | [], a, e, h => by
    have h : some a = some e := h;simp only [Option.some.injEq] at h; subst h;simp [Ac]
  | v :: r, a, e, h => by
    have h : (Af (Oa v) fun p => Be (Nat.beq (Mu p.1) (Mu k)) (Af (mm2 c mx a p.2) (mmL c mx k r)) none) = some e := h;simp only [Ab, Ch] at h;obtain ⟨p, hp, hk, m, hm, h⟩ := h;have ih := wD hv h;have hm := U0 hv hm;rw [Ac, List.foldlM_cons, Sem.run_bind, Gd hp];have h1 : ((if mx then Builtin.max2 else Builtin.min2) (.int k (a.den ρ.iv)) (.int p.1 (p.2.den ρ.iv))).run c.P w = .ok (.int k (m.den ρ.iv)) w := by
      rw [hm];cases mx <;> simp [Builtin.max2, Builtin.min2]
    rw [h1, Result.andThen_ok];exact ih
theorem wE (hv : Hc c.B ρ.iv ρ.sv) {mx : Bool} {l : List V} (h : qMM c mx l = some (v, rs)) : (match Ac ρ l with | [] => stuck "x" | x :: rest => rest.foldlM (if mx then Builtin.max2 else Builtin.min2) x).run c.P w = .ok (v.den ρ) w ∧ ∀ n, v.lt n := by
  cases l with
  | nil => cases h
  | cons u r =>
    have h : (Af (Oa u) fun p => Af (mmL c mx p.1 r p.2) fun e => qv (nT p.1 e)) = some (v, rs) := h;simp only [Ab, Ca] at h;obtain ⟨p, hp, e, he, rfl, rfl⟩ := h;refine ⟨?_, Oe _ _⟩;simp only [Ac];rw [Gd hp, Jt];exact wD hv he
theorem iM (hv : Hc c.B ρ.iv ρ.sv) (he : Gk ρ D s a) {k : Call} (h : kY c s k = some (v, rs)) (hr : Rd b0 Mk ρ s rs w) : Yw c.P ρ s.n a w (.call k) ty v := by
  unfold kY at h;split at h
  · rename_i b hb
    simp only [gW, Ab] at h;obtain ⟨vs, hvs, h⟩ := h;have e1 : k.args.map a.eval = (Ac ρ vs).toArray := Array.ext' (by rw [Array.toList_map]; exact he.evs hvs);have hlt := Jq he.e hvs;have hrun : ∀ (m : Sem Value), (∀ cs, builtin b k.argTypes ty cs (Ac ρ vs).toArray = do pure (.value (← m))) → m.run c.P w = .ok (v.den ρ) w → (execOp a.eval (Bq (.call k) ty)).run c.P w = .ok (.value (v.den ρ)) w := fun m hm h => by
      simp only [Bq, execOp, resolve, hb, Sem.run_bind, Sem.run_pure, Result.andThen_ok, invoke, e1, hm, h]
    split at h
    · split at h
      · rename_i x t htys
        obtain ⟨h1, h2⟩ := E5 hv h hr;refine ⟨hrun _ (fun cs => rfl) ?_, h2 _⟩;have : k.argTypes = #[t] := Array.ext' htys;rw [this];exact h1
      · cases h
    · split at h
      · rename_i i o n cp t htys
        obtain ⟨e, hE, h⟩ := Ab.1 h;simp only [Ca] at h;obtain ⟨rfl, rfl⟩ := h;have : k.argTypes = #[t] := Array.ext' htys;refine ⟨hrun _ (fun cs => rfl) ?_, by simp [V.lt]⟩;rw [this];simp [Builtin.cap_, Bj hE, V.den, Ac]
      · rename_i x t htys
        obtain ⟨r, hr', h⟩ := Ab.1 h;simp only [Ca] at h;obtain ⟨rfl, rfl⟩ := h;have : k.argTypes = #[t] := Array.ext' htys;refine ⟨hrun _ (fun cs => rfl) ?_, by simp [V.lt]⟩;rw [this];exact Dd hr' w
      · cases h
    · obtain ⟨h1, h2⟩ := wE (w := w) hv h;refine ⟨hrun _ (fun cs => rfl) ?_, h2 _⟩;cases vs with
      | nil => cases h
      | cons u r => simpa [Builtin.min_, Ac] using h1
    · obtain ⟨h1, h2⟩ := wE (w := w) hv h;refine ⟨hrun _ (fun cs => rfl) ?_, h2 _⟩;cases vs with
      | nil => cases h
      | cons u r => simpa [Builtin.max_, Ac] using h1
    · cases h
  · cases h
theorem iN {b : Nat} : ∀ {l : List (V × V × Nat)} {r : V × V}, nX b l = some r → (l.map (Bo ρ)).find? (·.born == b) = some ⟨r.1.den ρ, r.2.den ρ, b⟩ ∧ ∀ n, (∀ e ∈ l, e.1.lt n ∧ e.2.1.lt n) → r.1.lt n ∧ r.2.lt n
  | [], r, h => by cases h
  | e :: l, r, h => by
    simp only [nX] at h;split at h
    · rename_i hb
      have hb := Nat.eq_of_beq_eq_true hb;simp only [Option.some.injEq] at h; subst h;exact ⟨by simp [Bo, hb], fun n hl => hl e List.mem_cons_self⟩
    · rename_i hb
      have hb : ¬ e.2.2 = b := fun h => by subst h; simp at hb
      obtain ⟨h1, h2⟩ := iN h;refine ⟨?_, fun n hl => h2 n fun e he => hl e (List.mem_cons_of_mem _ he)⟩;have : ((Bo ρ e).born == b) = false := by simpa [Bo] using hb
      rw [List.map_cons, List.find?_cons];simp only [this];exact h1
theorem qU (hk : Wd s) (he : Gk ρ D s a) {x : Operand} (h : kX s x = some (v, rs)) (hr : Rd b0 Mk ρ s rs w) : Yw c.P ρ s.n a w (.entry x) ty v := by
  simp only [kX, Ab] at h;obtain ⟨u, hu, h⟩ := h;have e1 := he.ev hu;split at h
  · rename_i i
    split at h
    · rename_i m since seen last hb
      obtain ⟨b, hseen, h⟩ := Ab.1 h;split at h
      · rename_i es ck hm
        split at h
        · rename_i hck
          have hck := Nat.eq_of_beq_eq_true hck;simp only [Ab, Option.some.injEq, Prod.mk.injEq] at h;obtain ⟨e, hf, rfl, rfl⟩ := h;obtain ⟨B1, rfl, hw1⟩ := hr.one (i := i) List.mem_cons_self hb;obtain ⟨B2, rfl, hw2⟩ := hr.one (i := m) (List.mem_cons_of_mem _ List.mem_cons_self) hm;have o1 := hw1.own _ List.mem_cons_self;have o2 := hw2.own _ List.mem_cons_self;simp only at o1 o2;obtain ⟨f1, f2⟩ := iN (ρ := ρ) hf;obtain ⟨l1, l2⟩ := f2 s.n (hk m _ hm).2;refine ⟨?_, ⟨l1, l2, trivial⟩⟩;have hg1 : (getObj (ρ.blk i)).run c.P w = .ok (.mapIter (some (ρ.blk m)) since seen.toArray last) w := by
            simp [getObj, o1, Sem.run]
          have hg2 : (getObj (ρ.blk m)).run c.P w = .ok (.map (es.map (Bo ρ)).toArray ck) w := by
            simp [getObj, o2, Sem.run]
          have hs : seen.toArray.back? = some b := by simpa using hseen
          have hf' : (es.map (Bo ρ)).toArray.find? (·.born == b) = some ⟨e.1.den ρ, e.2.den ρ, b⟩ := by rw [List.find?_toArray]; exact f1
          simp only [Bq, execOp, e1, V.den, Instr.entry, Sem.run_bind, hg1, hg2, Result.andThen_ok, hs];simp [hck, hf', Ac]
        · cases h
      · cases h
    · cases h
  · cases h
end
end Go.Proofs.YtbooaoddioibeaaGreatDoor.Jd

namespace Go.Proofs.YtbooaoddioibeaaGreatDoor.Jd
open Go.Proofs.Tryz
open Go.Proofs
open Go.RowKit (Below)
set_option linter.unusedVariables false
set_option linter.unusedSimpArgs false
section
variable {c : Dr} {b0 : World} {Mk : List Nat} {ρ : Au} {D : List Deferred} {s : St} {a : Act} {w : World} {ty : TypeId} {v : V} {rs : List RE}
theorem wF (hc : Yv c b0 Mk ρ s.n) (hk : Wd s) (he : Gk ρ D s a) {op : Op} (h : qop c s op = some (v, rs)) (hr : Rd b0 Mk ρ s rs w) : Yw c.P ρ s.n a w op ty v := by
  unfold qop S7 at h;split at h
  · obtain ⟨h1, h2⟩ := iG he h; exact ⟨by simp [Bq, execOp, h1], h2⟩
  · obtain ⟨h1, h2⟩ := iG he h; exact ⟨by simp [Bq, execOp, h1], h2⟩
  · exact vN he h
  · exact vM hc hk he h hr
  · exact D6 he h
  · exact E0 hc.v he h hr
  · exact T7 he h
  · exact vY hc.v hk he h hr
  · exact qO he h
  · exact vO he h
  · exact qR hc.v he h hr
  · exact D8 he h
  · exact qP he h
  · exact vZ hk he h hr
  · exact E4 hc.v he h
  · exact wC hk he h hr
  · exact D7 he h
  · exact qT he h
  · exact lK he h
  · exact iM hc.v he h hr
  · exact qU hk he h hr
  · cases h
end
end Go.Proofs.YtbooaoddioibeaaGreatDoor.Jd

namespace Go.Proofs.YtbooaoddioibeaaGreatDoor.Jd
open Go.Proofs.Tryz
open Go.Proofs
open Go.RowKit (Below)
set_option linter.unusedVariables false
set_option linter.unusedSimpArgs false
section
variable {c : Dr} {b0 : World} {Mk : List Nat} {ρ : Au} {D : List Deferred} {s : St} {a : Act} {w : World} {ty : TypeId} {v : V} {rs : List RE}
/-- The block that an operation makes, and the value. -/
structure U1 (P : Program) (ρ : Au) (n : Nat) (a : Act) (op : Op) (ty : TypeId) (o : O) (f : Nat → V) : Prop where
  ex : ∃ (obj : Obj) (val : Nat → Value), (∀ w : World, (execOp a.eval (Bq op ty)).run P w = .ok (.value (val w.heap.size)) (w.alloc obj)) ∧ (∀ σ m, n ≤ m → Aj n ρ σ → o.is σ m [(σ.blk m, obj)]) ∧ ∀ (σ : Au) m, (f m).den σ = val (σ.blk m)
  ol : o.lt n
  fl : ∀ m, (f m).lt (m + 1)
theorem qV (he : Gk ρ D s a) {t : TypeId} {z : Value} (hz : Qg c t = some z) : U1 c.P ρ s.n a (.alloc t) ty (.cells (Ap (.raw z)) t (0, 0)) (fun n => .ptr n 0) := by
  refine ⟨⟨.cells (Ar z).toArray t, fun r => .pointer (some ⟨r, 0, none⟩), fun w => ?_, fun σ m _ _ => ?_, fun σ m => rfl⟩, Ee (by simp [V.lt]), fun m => by simp [V.lt]⟩
  · simp [Bq, execOp, Instr.alloc, Ly hz, newVar, newRow, Bh]
  · simp only [O.is, Gx]
theorem E6 (he : Gk ρ D s a) {t : TypeId} {x : Operand} {u : V} (hu : Fg s.E x = some u) : U1 c.P ρ s.n a (.box t x) ty (.cells (Ap u) t (0, 0)) (fun n => .ptr n 0) := by
  refine ⟨⟨.cells (Ar (u.den ρ)).toArray t, fun r => .pointer (some ⟨r, 0, none⟩), fun w => ?_, fun σ m _ hσ => ?_, fun σ m => rfl⟩, Ee (he.lt hu), fun m => by simp [V.lt]⟩
  · simp [Bq, execOp, he.ev hu, Instr.box, newVar, newRow, Bh]
  · simp only [O.is];rw [Gw hσ _ (he.lt hu), Di]
theorem E7 (he : Gk ρ D s a) {t : TypeId} : U1 c.P ρ s.n a (.makeMap t none) ty (.map [] 0) (fun n => .mp n) := by
  refine ⟨⟨.map #[] 0, fun r => .map (some r), fun w => ?_, fun σ m _ hσ => ?_, fun σ m => rfl⟩, (fun e he => by cases he), fun m => by simp [V.lt]⟩
  · simp [Bq, execOp, Instr.makeMap]
  · simp [O.is]
theorem Ps {c : Dr} {t : TypeId} {d : TypeDesc} (h : Ij c t = some d) : c.P.underlying t = some d := by
  unfold Ij underlying at h;cases e : c.P.underlying t with
  | none => simp [Eu, program, bind, Sem.bind, e, stuck, Sem.halt] at h
  | some x => simpa [Eu, program, bind, Sem.bind, e, pure] using h
theorem Mc {c : Dr} {t e : TypeId} (h : Br c t = some e) : c.P.underlying t = some (.slice e) := by
  unfold Br at h; split at h
  · rename_i he; simp only [Option.some.injEq] at h; subst h; exact Ps he
  · cases h
theorem Co {k : Nat} : ∀ {xs : List (List V)}, (∀ x ∈ xs, x.length = k) → (Aw xs).length = xs.length * k
  | [], _ => by simp [Dj]
  | x :: r, h => by
    rw [Dp, List.length_append, h x List.mem_cons_self, Co fun y hy => h y (List.mem_cons_of_mem _ hy), List.length_cons, Nat.succ_mul, Nat.add_comm]
theorem wG {z : Value} {k m : Nat} (hk : (Ap (.raw z)).length = k) : madeCells z.cells (m * k) = (Ac ρ (Aw (List.replicate m (Ap (.raw z))))).toArray := by
  have hall : ∀ x ∈ List.replicate m (Ap (.raw z)), x.length = k := fun x hx => by rw [List.eq_of_mem_replicate hx]; exact hk
  have hlen := Co hall;rw [List.length_replicate] at hlen;have hkL : (Ar z).length = k := by rw [← Gx (ρ := ρ), Ag]; exact hk
  apply Array.ext';rw [Bh];apply List.ext_getElem?;intro j;by_cases hj : j < m * k
  · have Tp : 0 < k := by rcases Nat.eq_zero_or_pos k with h | h; (subst h; simp at hj); exact h
    have hi : j / k < m := (Nat.div_lt_iff_lt_mul Tp).2 hj;have hm : j % k < k := Nat.mod_lt _ Tp;obtain ⟨u, hu⟩ : ∃ u, (Ap (.raw z))[j % k]? = some u := ⟨(Ap (.raw z))[j % k]'z6, List.getElem?_eq_getElem _⟩
    have h1 := Kv hall (i := j / k) (x := Ap (.raw z)) (by simp [hi]) hu;have e2 : j / k * k + j % k = j := by rw [Nat.mul_comm]; exact Nat.div_add_mod j k
    rw [e2] at h1;have h2 : (Ar z)[j % k]? = some (u.den ρ) := by rw [← Gx (ρ := ρ), Ez, hu]; rfl
    rw [List.toList_toArray, Ez, h1];simp [madeCells, hj, hkL, hm];exact (List.getElem?_eq_some_iff.1 h2).2
  · rw [List.getElem?_eq_none (by simp [madeCells]; omega), List.getElem?_eq_none (by rw [List.toList_toArray, Ag, hlen]; omega)]
theorem dO {c : Dr} {t : TypeId} {z : Value} (h : Qg c t = some z) : ∃ i, c.P.info? t = some i ∧ i.zero = some z := by
  unfold Qg zeroValue typeInfo at h;cases e : c.P.info? t with
  | none => simp [Eu, program, bind, Sem.bind, e, stuck, Sem.halt] at h
  | some i =>
    cases e2 : i.zero with
    | none => simp [Eu, program, bind, Sem.bind, e, e2, pure, unsupported, Sem.halt] at h
    | some v =>
      have : v = z := by simpa [Eu, program, bind, Sem.bind, e, e2, pure] using h
      exact ⟨i, rfl, by rw [e2, this]⟩
theorem dP {c : Dr} {t : TypeId} {k : Nat} {i : TypeInfo} (hi : c.P.info? t = some i) (h : Ik c t = some k) : i.size = k := by
  unfold Ik sizeOf typeInfo at h;simpa [Eu, program, bind, Sem.bind, hi, pure] using h
theorem oP {c : Dr} {t : TypeId} {k : Nat} {i : TypeInfo} (hi : c.P.info? t = some i) (h : Eu c.P (do pure (← typeInfo t).bytes) = some k) : i.bytes = k := by
  unfold typeInfo at h;simpa [Eu, program, bind, Sem.bind, hi, pure] using h
theorem wH (he : Gk ρ D s a) {t e : TypeId} {x y : Operand} {n m k by_ : Nat} {z : Value} (hx : Fg s.E x = some (.raw (.int .i64 (.ofNat n)))) (hy : Fg s.E y = some (.raw (.int .i64 (.ofNat m)))) (hE : Br c t = some e) (hK : Ik c e = some k) (hz : Qg c e = some z)
    (hb : Eu c.P (do pure (← typeInfo e).bytes) = some by_) (h1 : n ≤ m) (h2 : m ≤ 100000) (h3 : by_ ≤ 100000) (h4 : (Ap (.raw z)).length = k) :
    U1 c.P ρ s.n a (.makeSlice t x y) ty (.cells (Aw (List.replicate m (Ap (.raw z)))) e (0, 0)) (fun b => .sl b 0 n m) := by
  obtain ⟨i, hi, hiz⟩ := dO hz;have hs := dP hi hK;have hbb := oP hi hb;have hl0 : Dh s.n (Aw (List.replicate m (Ap (.raw z)))) := Du.2 fun x hx => by rw [List.eq_of_mem_replicate hx]; exact Ee (by simp [V.lt])
  refine ⟨⟨.cells (madeCells z.cells (m * k)) e, fun r => .slice (some ⟨r, 0, none⟩) n m, fun w => ?_, fun σ m _ _ => ?_, fun σ m => rfl⟩, hl0, fun m => by simp [V.lt]⟩
  · have hbm : (i.bytes : Int) * (m : Int) ≤ 281474976710656 := by
      rw [hbb, ← Int.natCast_mul];have := Nat.mul_le_mul h3 h2;omega
    have := run_make (P := c.P) w t e i z (Mc hE) hi hiz .i64 .i64 (n : Int) (m : Int) z6 z6 hbm z6;have e1 := he.ev hx;have e2 := he.ev hy;simp only [V.den, Int.ofNat_eq_natCast] at e1 e2;simp [Bq, execOp, e1, e2, this, hs]
  · simp only [O.is]; rw [wG h4]
theorem qW (he : Gk ρ D s a) {t e : TypeId} {parts : Array (Nat × Operand)} {ps : List (Nat × V)} {cs : List V} {len k : Nat} {z : Value} (hE : Br c t = some e) (hK : Ik c e = some k) (hz : Qg c e = some z) (hp : Xq s.E parts.toList = some ps)
    (h1 : len * k ≤ 100000) (h2 : (Ap (.raw z)).length = k) (hf : aJ (fun i => some (i * k, k)) (Aw (List.replicate len (Ap (.raw z)))) ps = some cs) :
    U1 c.P ρ s.n a (.buildSlice t len parts) ty (.cells cs e (0, 0)) (fun n => .sl n 0 len len) := by
  obtain ⟨p1, p2⟩ := Uk he hp;have hl0 : Dh s.n (Aw (List.replicate len (Ap (.raw z)))) := Du.2 fun x hx => by rw [List.eq_of_mem_replicate hx]; exact Ee (by simp [V.lt])
  obtain ⟨g1, g2⟩ := Sw (ρ := ρ) (f := fun i => some (i * k, k)) (fun i q hq => hq) hf;have hcs := g2 _ hl0 p2;have e0 : (parts.map fun p => (p.1, a.eval p.2)).toList = ps.map fun p => (p.1, p.2.den ρ) := by rw [Array.toList_map]; exact p1
  refine ⟨⟨.cells (Ac ρ cs).toArray e, fun r => .slice (some ⟨r, 0, none⟩) len len, fun w => ?_, fun σ m _ hσ => ?_, fun σ m => rfl⟩, hcs, fun m => by simp [V.lt]⟩
  · have hb' : ¬ (len * k > 2 ^ 24) := by omega
    have em : (parts.map fun x => match x with | (i, x) => (i, a.eval x)) = parts.map fun p => (p.1, a.eval p.2) := by
      congr 1
    have hm := wG (ρ := ρ) (m := len) h2;have key : (Instr.buildSlice t len (parts.map fun p => (p.1, a.eval p.2))).run c.P w = .ok (.slice (some ⟨w.heap.size, 0, none⟩) len len) (w.alloc (.cells (Ac ρ cs).toArray e)) := by
      by_cases h0 : len * k = 0
      · have hm0 : (Array.range (len * k)).map (fun i => (#[] : Array Value)[i % (#[] : Array Value).size]!) = madeCells z.cells (len * k) := by
          simp [madeCells, h0]
        simp only [Instr.buildSlice, Sem.run_bind, Bj hE, Cy hK, Result.andThen_ok, hb', if_false, Sem.run_pure, if_pos h0];rw [hm0, hm, e0, g1];simp [newRow]
      · have hm0 : (Array.range (len * k)).map (fun i => z.cells[i % z.cells.size]!) = madeCells z.cells (len * k) := rfl;simp only [Instr.buildSlice, Sem.run_bind, Bj hE, Cy hK, Result.andThen_ok, hb', if_false, Sem.run_pure, if_neg h0, Ly hz];rw [hm0, hm, e0, g1];simp [newRow]
    simp only [Bq, execOp, Sem.run_bind];rw [em, key];simp
  · simp only [O.is];rw [Cf hσ _ hcs]
theorem wI (he : Gk ρ D s a) {op : Op} {o : O} {f : Nat → V} (h : S9 c s op = some (o, f)) : U1 c.P ρ s.n a op ty o f := by
  unfold S9 at h;split at h
  · simp only [Ab, Option.some.injEq, Prod.mk.injEq] at h;obtain ⟨z, hz, rfl, rfl⟩ := h;exact qV he hz
  · simp only [Ab, Option.some.injEq, Prod.mk.injEq] at h;obtain ⟨u, hu, rfl, rfl⟩ := h;exact E6 he hu
  · simp only [Ab] at h;obtain ⟨e, hE, k, hK, z, hz, ps, hp, h⟩ := h;split at h
    · rename_i hc
      simp only [Bool.and_eq_true, Nat.ble_eq, Nat.beq_eq] at hc;simp only [Ab, Option.some.injEq, Prod.mk.injEq] at h;obtain ⟨cs, hcs, rfl, rfl⟩ := h;exact qW he hE hK hz hp hc.1 hc.2 hcs
    · cases h
  · simp only [Option.some.injEq, Prod.mk.injEq] at h;obtain ⟨rfl, rfl⟩ := h;exact E7 he
  · simp only [Ab] at h;obtain ⟨l, hl, cp, hcp, h⟩ := h;split at h
    · simp only [Ab] at h;obtain ⟨e, hE, k, hK, z, hz, by_, hb, h⟩ := h;split at h
      · rename_i hc
        simp only [Bool.and_eq_true, Nat.ble_eq, Nat.beq_eq] at hc;simp only [Option.some.injEq, Prod.mk.injEq] at h;obtain ⟨rfl, rfl⟩ := h;exact wH he hl hcp hE hK hz hb hc.1 hc.2.1 hc.2.2.1 hc.2.2.2
      · cases h
    · cases h
  · cases h
end
end Go.Proofs.YtbooaoddioibeaaGreatDoor.Jd

namespace Go.Proofs.YtbooaoddioibeaaGreatDoor.Jd
open Go.Proofs.Tryz
open Go.Proofs
open Go.RowKit (Below)
set_option linter.unusedVariables false
set_option linter.unusedSimpArgs false
def WH (H : Hp) : Prop := ∀ k p, H.get k = some p → k = p.1 + 1
structure At (b0 : World) (Mk : List Nat) (ρ : Au) (s : St) (w : World) : Prop where
  h : ∃ L, Na ρ s.H.toList L ∧ SH b0 Mk L w
  k : Wd s
  wh : WH s.H
section
variable {c : Dr} {b0 : World} {Mk : List Nat} {ρ : Au} {D : List Deferred} {s : St} {a : Act} {w : World}
theorem Im {i : Nat} {o : O} (hw : WH s.H) (h : s.blk i = some o) : s.H.get (i + 1) = some (i, o) := by
  simp only [St.blk, Ab, Option.some.injEq] at h;obtain ⟨p, hp, rfl⟩ := h;have := hw _ _ hp;obtain ⟨p1, p2⟩ := p;simp only at this;have : p1 = i := by omega
  subst this; exact hp
theorem Md {i : Nat} {o : O} (h : s.H.get (i + 1) = some (i, o)) : s.blk i = some o := by
  simp only [St.blk, h, Sd]
theorem At.split {i : Nat} {o : O} (h : At b0 Mk ρ s w) (hb : s.blk i = some o) : ∃ B R l, o.is ρ i B ∧ SH b0 Mk (B ++ R) w ∧ List.Perm s.H.toList ((i, o) :: l) ∧ Na ρ l R := by
  obtain ⟨L, h1, h2⟩ := h.h;obtain ⟨l, hl⟩ := T.get_perm (Im h.wh hb);obtain ⟨L', h3, h4⟩ := h1.perm hl;cases h3 with
  | cons h5 h6 => exact ⟨_, _, l, h5, h2.perm h4, hl, h6⟩
theorem At.rd (h : At b0 Mk ρ s w) (rs : List RE) : Rd b0 Mk ρ s rs w := by
  obtain ⟨L, h1, h2⟩ := h.h;refine ⟨h2.sub (List.nil_sublist _), fun e he o ho => ?_⟩;obtain ⟨B, R, l, g1, g2, _, _⟩ := h.split ho;have hB : SH b0 Mk B w := g2.sub (List.sublist_append_left _ _);split
  · exact ⟨B, g1, hB⟩
  · intro l' t f e' j v hj1 hj2 hn;subst e';simp only [O.is] at g1;subst g1;exact hB.cell List.mem_cons_self (by rw [← Em]; exact Jc hn)
theorem At.all (h : At b0 Mk ρ s w) : ∀ p ∈ s.H.toList, p.1 < s.n ∧ p.2.lt s.n := fun p hp => by
  obtain ⟨k, _, hk⟩ := T.mem_get hp;have := h.wh _ _ hk;subst this;obtain ⟨p1, p2⟩ := p;exact h.k p1 p2 (Md hk)
theorem WH.set {H : Hp} (h : WH H) (i : Nat) (o : O) : WH (H.set (i, o) (i + 1)) := fun k p hp => by
  rw [T.get_set _ _ _ _ z6] at hp;split at hp
  · cases hp; assumption
  · exact h k p hp
abbrev Au.nxt (ρ : Au) (s : St) (w : World) : Au := ρ.upd s.n w.heap.size default default
theorem oQ : (ρ.nxt s w).blk s.n = w.heap.size := by simp [Au.nxt, Au.upd]
theorem aV : Aj s.n ρ (ρ.nxt s w) := Au.agree_upd ρ s.n w.heap.size default default
theorem At.alloc (h : At b0 Mk ρ s w) (hM : ∀ k ∈ Mk, k < b0.heap.size) {o : O} {obj : Obj} (h2 : ∀ σ, Aj s.n ρ σ → o.is σ s.n [(σ.blk s.n, obj)]) (ol : o.lt s.n) :
    At b0 Mk (ρ.nxt s w) { s with n := s.n + 1, H := s.H.set (s.n, o) (s.n + 1) } (w.alloc obj) := by
  have hag := Au.agree_upd ρ s.n w.heap.size default default;have hb : (ρ.upd s.n w.heap.size default default).blk s.n = w.heap.size := by simp [Au.upd]
  refine ⟨?_, ?_, h.wh.set _ _⟩
  · obtain ⟨L, g1, g2⟩ := h.h;obtain ⟨R, r1, r2⟩ := T.perm_set (s.n, o) s.H (s.n + 1) z6;have hn : s.H.get (s.n + 1) = none := by
      cases hg : s.H.get (s.n + 1) with
      | none => rfl
      | some p =>
        have hp := h.all p (T.get_mem hg);have := h.wh _ _ hg;omega
    rw [hn] at r2;simp only [Option.toList_none, List.nil_append] at r2;obtain ⟨L', g3, g4⟩ := g1.perm r2;have g5 := g3.agree hag (fun p hp => h.all p (r2.mem_iff.2 hp));have hi := h2 _ hag;rw [hb] at hi;obtain ⟨L2, g6, g7⟩ := (Na.cons (p := (s.n, o)) hi g5).perm r1.symm;refine ⟨L2, g6, ?_⟩;have := (g2.perm g4).alloc obj hM;exact this.perm g7
  · intro i o' hb';have hb' : (s.H.set (s.n, o) (s.n + 1)).get (i + 1) = some (i, o') := by
      simp only [St.blk, Ab, Option.some.injEq] at hb';obtain ⟨p, hp, rfl⟩ := hb';have := (h.wh.set s.n o) _ _ hp;obtain ⟨p1, p2⟩ := p;simp only at this;have : p1 = i := by omega
      subst this; exact hp
    rw [T.get_set _ _ _ _ z6] at hb';split at hb'
    · cases hb'
      exact ⟨Nat.lt_succ_self _, O.lt.mono (Nat.le_succ _) ol⟩
    · obtain ⟨k1, k2⟩ := h.k i o' (Md hb');exact ⟨Nat.lt_succ_of_lt k1, O.lt.mono (Nat.le_succ _) k2⟩
theorem At.new (h : At b0 Mk ρ s w) (hM : ∀ k ∈ Mk, k < b0.heap.size) {P : Program} {op : Op} {ty : TypeId} {o : O} {f : Nat → V} (hA : U1 P ρ s.n a op ty o f) :
    ∃ w', (execOp a.eval (Bq op ty)).run P w = .ok (.value ((f s.n).den (ρ.nxt s w))) w' ∧ At b0 Mk (ρ.nxt s w) { s with n := s.n + 1, H := s.H.set (s.n, o) (s.n + 1) } w' := by
  obtain ⟨obj, val, h1, h2, h3⟩ := hA.ex;exact ⟨w.alloc obj, by rw [h3, oQ]; exact h1 w, h.alloc hM (fun σ hσ => h2 σ _ (Nat.le_refl _) hσ) hA.ol⟩
theorem At.set {w' : World} {i : Nat} {o o' : O} (h : At b0 Mk ρ s w) (hb : s.blk i = some o) (hlt : o'.lt s.n) (ht : ∀ B R, o.is ρ i B → SH b0 Mk (B ++ R) w → ∃ B', o'.is ρ i B' ∧ SH b0 Mk (B' ++ R) w') (wr : List RE) :
    At b0 Mk ρ { s with H := s.H.set (i, o') (i + 1), wr := wr } w' := by
  have hi := (h.k i o hb).1;refine ⟨?_, ?_, h.wh.set _ _⟩
  · obtain ⟨L, g1, g2⟩ := h.h;obtain ⟨R, r1, r2⟩ := T.perm_set (i, o') s.H (i + 1) z6;rw [Im h.wh hb] at r2;simp only [Option.toList_some, List.singleton_append] at r2;obtain ⟨L', g3, g4⟩ := g1.perm r2;cases g3 with
    | cons g5 g6 =>
      obtain ⟨B', g7, g8⟩ := ht _ _ g5 (g2.perm g4);obtain ⟨L2, g9, g10⟩ := (Na.cons (p := (i, o')) g7 g6).perm r1.symm;exact ⟨L2, g9, g8.perm g10⟩
  · intro j q hj;have hj : (s.H.set (i, o') (i + 1)).get (j + 1) = some (j, q) := by
      simp only [St.blk, Ab, Option.some.injEq] at hj;obtain ⟨p, hp, rfl⟩ := hj;have := (h.wh.set i o') _ _ hp;obtain ⟨p1, p2⟩ := p;simp only at this;have : p1 = j := by omega
      subst this; exact hp
    rw [T.get_set _ _ _ _ z6] at hj;split at hj
    · cases hj; exact ⟨hi, hlt⟩
    · exact h.k j q (Md hj)
theorem At.dead {i : Nat} {o : O} (h : At b0 Mk ρ s w) (hb : s.blk i = some o) (wr : List RE) : At b0 Mk ρ { s with H := s.H.set (i, .dead) (i + 1), wr := wr } w :=
  h.set (o' := .dead) hb trivial (fun B R _ hw => ⟨[], rfl, hw.sub (List.sublist_append_right _ _)⟩) wr
theorem At.put {w' : World} {i : Nat} {o o' : O} {B' R : Ad} {l : List (Nat × O)} (h : At b0 Mk ρ s w) (hb : s.blk i = some o) (hlt : o'.lt s.n) (hl : List.Perm s.H.toList ((i, o) :: l)) (hR : Na ρ l R) (ho : o'.is ρ i B') (hw : SH b0 Mk (B' ++ R) w') (wr : List RE) :
    At b0 Mk ρ { s with H := s.H.set (i, o') (i + 1), wr := wr } w' := by
  have h0 := h.set (o' := .dead) hb trivial (fun B R _ hw => ⟨[], rfl, hw.sub (List.sublist_append_right _ _)⟩) wr;have hi := (h.k i o hb).1;refine ⟨?_, ?_, h.wh.set _ _⟩
  · obtain ⟨R2, r1, r2⟩ := T.perm_set (i, o') s.H (i + 1) z6;rw [Im h.wh hb] at r2;simp only [Option.toList_some, List.singleton_append] at r2;have hp : List.Perm R2 l := ((r2.symm.trans hl).cons_inv)
    obtain ⟨R', g1, g2⟩ := hR.perm hp.symm;obtain ⟨L2, g9, g10⟩ := (Na.cons (p := (i, o')) ho g1).perm r1.symm;exact ⟨L2, g9, (hw.perm (g2.append_left _)).perm g10⟩
  · intro j q hj;have hj : (s.H.set (i, o') (i + 1)).get (j + 1) = some (j, q) := by
      simp only [St.blk, Ab, Option.some.injEq] at hj;obtain ⟨p, hp, rfl⟩ := hj;have := (h.wh.set i o') _ _ hp;obtain ⟨p1, p2⟩ := p;simp only at this;have : p1 = j := by omega
      subst this; exact hp
    rw [T.get_set _ _ _ _ z6] at hj;split at hj
    · cases hj; exact ⟨hi, hlt⟩
    · exact h.k j q (Md hj)
end
end Go.Proofs.YtbooaoddioibeaaGreatDoor.Jd

namespace Go.Proofs.YtbooaoddioibeaaGreatDoor.Jd
open Go.Proofs.Tryz
open Go.Proofs
open Go.RowKit (Below)
set_option linter.unusedVariables false
set_option linter.unusedSimpArgs false
section
variable {c : Dr} {b0 : World} {Mk : List Nat} {ρ : Au} {D : List Deferred} {s : St} {a : Act} {w : World} {ty : TypeId}
def nxt (ρ : Au) : Option V → Next
  | some v => .value (v.den ρ)
  | none => .skip
structure fF (P : Program) (b0 : World) (Mk : List Nat) (ρ : Au) (s : St) (a : Act) (w : World) (op : Op) (ty : TypeId) (nx : Option V) (s' : St) : Prop where
  ex : ∃ σ w', (execOp a.eval (Bq op ty)).run P w = .ok (nxt σ nx) w' ∧ Aj s.n ρ σ ∧ At b0 Mk σ s' w'
  lt : ∀ v, nx = some v → v.lt s'.n
  n : s.n ≤ s'.n
  same : s'.N = s.N ∧ s'.E = s.E ∧ s'.ms = s.ms ∧ s'.rd = s.rd ∧ s'.lo = s.lo
theorem SH.repl1 {w w' : World} {r : Nat} {o o' : Obj} {R : Ad} (h : SH b0 Mk ([(r, o)] ++ R) w) (h1 : w'.heap[r]? = some o') (h2 : ∀ k, k ≠ r → w'.heap[k]? = w.heap[k]?) (h3 : w'.heap.size = w.heap.size)
    (h4 : w'.os = w.os) (h5 : w'.tape = w.tape) (h6 : w'.output = w.output) : SH b0 Mk ([(r, o')] ++ R) w' := h.repl .head h1 h2 h3 h4 h5 h6
theorem Vl (ρ : Au) {v : V} (h : Ey (Ap v) = true) : Bn (Ar (v.den ρ)) = true := by rw [Di]; exact Hn ρ h
theorem Ul : ∀ {l : List Value}, (∀ u ∈ l, u.oneCell' = true) → Bn l = true
  | [], _ => rfl
  | v :: r, h => by simp only [Bn, h v List.mem_cons_self, Ul fun u hu => h u (List.mem_cons_of_mem _ hu), Bool.and_self]
theorem Sx : ∀ {l us : List Value} {n : Nat} {x : Value}, x ∈ Bv l n us → x ∈ l ∨ x ∈ us
  | [], us, n, x, h => by cases us <;> cases n <;> simp [Bv] at h
  | v :: r, [], n, x, h => by simp only [Bv] at h; exact .inl h
  | v :: r, u :: us, 0, x, h => by
    simp only [Bv] at h;rcases List.mem_cons.1 h with rfl | h
    · exact .inr List.mem_cons_self
    · rcases Sx h with h | h
      · exact .inl (List.mem_cons_of_mem _ h)
      · exact .inr (List.mem_cons_of_mem _ h)
  | v :: r, u :: us, n + 1, x, h => by
    simp only [Bv] at h;rcases List.mem_cons.1 h with rfl | h
    · exact .inl List.mem_cons_self
    · rcases Sx h with h | h
      · exact .inl (List.mem_cons_of_mem _ h)
      · exact .inr h
theorem Pt : ∀ {l us : List Value} {n m : Nat}, n + us.length ≤ m → m ≤ l.length → (Bv l n us).take m = Bv (l.take m) n us
  | [], us, n, m, h, hm => by cases us <;> cases n <;> simp [Bv]
  | v :: r, [], n, m, h, hm => by
    have : ∀ l : List Value, Bv l n [] = l := fun l => by cases l <;> simp [Bv]
    rw [this, this]
  | v :: r, u :: us, 0, m, h, hm => by
    obtain ⟨q, rfl⟩ : ∃ q, m = q + 1 := ⟨m - 1, by simp at h; omega⟩
    simp only [Bv, List.take_succ_cons];rw [Pt (by simp at h ⊢; omega) (by simpa using hm)]
  | v :: r, u :: us, n + 1, m, h, hm => by
    obtain ⟨q, rfl⟩ : ∃ q, m = q + 1 := ⟨m - 1, by simp at h; omega⟩
    simp only [Bv, List.take_succ_cons];rw [Pt (by simp at h ⊢; omega) (by simpa using hm)]
theorem qX (hA : At b0 Mk ρ s w) (he : Gk ρ D s a) {t : TypeId} {x y : Operand} {s' : St} (h : Xs c s t x y = some s') : fF c.P b0 Mk ρ s a w (.store t x y) ty none s' := by
  simp only [Xs, Ab] at h;obtain ⟨u, hu, v, hv, k, hk, h⟩ := h;have e1 := he.ev hu;have e2 := he.ev hv;have hS := Cy hk;split at h
  · cases h
  · rename_i hc
    simp only [Bool.and_eq_true, Nat.beq_eq, beq_iff_eq] at hc;obtain ⟨hlen, hone⟩ := hc;have hn : (Ar (v.den ρ)).length = k := by rw [Di, Ag]; exact hlen
    have ho := Vl ρ hone;split at h
    · rename_i i o
      split at h
      · rename_i l t' f hb
        split at h
        · rename_i hf
          have hf := Nat.eq_of_beq_eq_true hf;obtain ⟨l', hl', h⟩ := Ab.1 h;obtain ⟨g1, g2, g3, g4⟩ := Lz ρ _ _ _ _ hl';have h : some { s with H := s.H.set (i, .cells l' t' f) (i + 1), wr := Cm s.lo (i, o, o + k) s.wr } = some s' := h;simp only [Option.some.injEq] at h;subst h;obtain ⟨B, R, l0, hB, hw, _, _⟩ := hA.split hb;simp only [O.is] at hB;subst hB;have hw0 := hw.own (ρ.blk i, _) List.mem_cons_self;simp only at hw0;obtain ⟨w', h1, h2, h3, h4, h5, h6, h7⟩ := Ck (P := c.P) (r := ρ.blk i) (k := o) (T := t') (f := f) (Ar (v.den ρ)) (Ac ρ l) 0 w hw0 (.inl hf) ho (by rw [Ag, Di, Ag]; omega);rw [Nat.add_zero, Di, g1] at h2;refine ⟨⟨ρ, w', ?_, Aj.refl _ _, hA.set (o' := .cells l' t' f) hb (g4 _ (hA.k i _ hb).2 (Ee (he.lt hv))) (fun B R hB hw => ?_) _⟩, (fun v h => by cases h), Nat.le_refl _, rfl, rfl, rfl, rfl, rfl⟩
          · simp [Bq, execOp, e1, e2, V.den, Instr.storeAt, Instr.sureAddr, storeVar, Bh, hS, hn, h1, nxt]
          · simp only [O.is] at hB;subst hB;exact ⟨_, rfl, SH.repl1 hw h2 h3 h4 h5 h6 h7⟩
        · cases h
      · cases h
    · rename_i i o
      split at h
      · rename_i t' k' xs hb
        simp only [Ab] at h;obtain ⟨l', hl', xs', hxs', h⟩ := h;obtain ⟨g1, g2, g3, g4⟩ := Lz ρ _ _ _ _ hl';obtain ⟨c1, c2, c3⟩ := Ss _ _ _ hxs';have h : some { s with H := s.H.set (i, .own t' k' xs') (i + 1), wr := Cm s.lo (i, 0, 0) s.wr } = some s' := h;simp only [Option.some.injEq] at h;subst h;have hl2 : Dh s.n (Aw xs') := c1 ▸ g4 _ (Du.2 (hA.k i _ hb).2) (Ee (he.lt hv));obtain ⟨B, R, l0, hB, hw, hl0, hR0⟩ := hA.split hb;obtain ⟨Tp, hx, hO⟩ := hB;have hx' : ∀ x ∈ xs', x.length = k' ∧ Bn (Ac ρ x) = true := fun x hxm => by
          refine ⟨c3 x hxm, Ul fun u hu => ?_⟩;have hm : u ∈ Ac ρ (Aw xs') := by
            rw [Ef]; exact List.mem_flatten.2 ⟨_, List.mem_map.2 ⟨x, hxm, rfl⟩, hu⟩
          rw [← c1, ← g1] at hm;rcases Sx hm with hm | hm
          · rw [Ef] at hm;obtain ⟨y, hy, hu⟩ := List.mem_flatten.1 hm;obtain ⟨z, hz, rfl⟩ := List.mem_map.1 hy;exact Gt (hx z hz).2 u hu
          · exact Gt (Hn ρ hone) u hm
        have hflat : ∀ ys : List (List V), (∀ x ∈ ys, x.length = k' ∧ Bn (Ac ρ x) = true) → Cw (Ue k') (ys.map (Ac ρ)) = Ac ρ (Aw ys) := fun ys hy => by
          rw [Ef]; unfold Cw;congr 1;rw [List.map_map];refine List.map_congr_left fun x hxm => ?_
          obtain ⟨e1, e2⟩ := hy x hxm;exact Sh (by rw [Ag]; exact e1) e2
        have hrun : ∀ w', (storeCells (ea (ρ.own i).1 o) (Ar (v.den ρ))).run c.P w = .ok () w' → (execOp a.eval (Bq (.store t x y) ty)).run c.P w = .ok .skip w' := fun w' hw' => by
          simp [Bq, execOp, e1, e2, V.den, Instr.storeAt, Instr.sureAddr, storeVar, Bh, hS, hn, hw']
        rcases hO with ⟨h1, rfl, h3⟩ | ⟨r, cur, fz, h1, rfl, hfz, h2, h3, h4⟩
        · have hxs : xs = [] := by simpa using h3
          subst hxs;have hxs2 : xs' = [] := by simpa using c2
          subst hxs2;have hz : Ap v = [] := by
            simp only [Dj, List.length_nil] at g3;exact List.length_eq_zero_iff.1 z6
          refine ⟨⟨ρ, w, hrun w (by rw [Di, hz]; simp [Ac, storeCells]), Aj.refl _ _, hA.set (o' := .own t' k' []) hb (fun x hx => by cases hx) (fun B R hB hw => ⟨B, hB, hw⟩) _⟩, (fun v h => by cases h), Nat.le_refl _, rfl, rfl, rfl, rfl, rfl⟩
        · have hw0 := hw.own (r, Obj.cells cur t' fz) List.mem_cons_self;simp only at hw0;have hcl : cur.toList.length = cur.size := Array.length_toList;have hfl := Co (k := k') (fun x hxm => (hx x hxm).1);simp only [List.length_map] at h2 h4;have hxc : xs.length * k' ≤ cur.size := by rw [h3]; exact Nat.mul_le_mul_right _ h2
          have hus : (Ar (v.den ρ)).length = (Ap v).length := by rw [Di, Ag]
          obtain ⟨w', f1, f2, f3, f4, f5, f6, f7⟩ := Ck (P := c.P) (r := r) (k := o) (T := t') (f := fz) (Ar (v.den ρ)) cur.toList 0 w hw0 (by rw [hcl]; exact hfz) (Vl ρ hone) (by rw [hus, hcl]; omega);have hea : ea (ρ.own i).1 o = ⟨r, o, none⟩ := by rw [h1]; simp [ea]
          rw [Nat.add_zero, Di] at f2;have hlenS : (Bv cur.toList o (Ac ρ (Ap v))).length = cur.size := by rw [En, hcl]
          have ht := Pt (l := cur.toList) (us := Ac ρ (Ap v)) (n := o) (m := xs.length * k') (by rw [Ag]; omega) (by rw [hcl]; exact hxc);rw [h4, hflat xs hx, g1, c1] at ht;refine ⟨⟨ρ, w', hrun w' (by rw [hea]; exact f1), Aj.refl _ _, hA.put (o' := .own t' k' xs') hb (Du.1 hl2) hl0 hR0 ⟨Tp, hx', .inr ⟨r, (Bv cur.toList o (Ac ρ (Ap v))).toArray, fz, h1, rfl, by rw [List.size_toArray, hlenS]; exact hfz, by rw [List.length_map, c2]; exact h2, by rw [List.size_toArray, hlenS]; exact h3, by rw [List.length_map, c2, hflat xs' hx']; exact ht⟩⟩ (SH.repl1 hw f2 f3 f4 f5 f6 f7) _⟩, (fun v h => by cases h), Nat.le_refl _, rfl, rfl, rfl, rfl, rfl⟩
      · cases h
    · cases h
end
end Go.Proofs.YtbooaoddioibeaaGreatDoor.Jd

namespace Go.Proofs.YtbooaoddioibeaaGreatDoor.Jd
open Go.Proofs.Tryz
open Go.Proofs
open Go.RowKit (Below)
set_option linter.unusedVariables false
set_option linter.unusedSimpArgs false
section
variable {c : Dr} {b0 : World} {Mk : List Nat} {ρ : Au} {D : List Deferred} {s : St} {a : Act} {w : World} {ty : TypeId}
theorem AG9 {x y : ByteArray} (h : (x == y) = true) : x = y := by
  obtain ⟨x⟩ := x;obtain ⟨y⟩ := y;have h : (x == y) = true := h;rw [eq_of_beq h]
theorem E8 (x : ByteArray) : (x == x) = true := by
  obtain ⟨x⟩ := x;show (x == x) = true
  simp
theorem lL {kd : TypeDesc} {k k' : Value} (h : Instr.sameNow kd k k' = some true) : k' = k ∧ Instr.sameBits 10000 k' k = true := by
  unfold Instr.sameNow at h;split at h
  · rename_i j x j' y
    split at h
    · rename_i e
      subst e;simp only [Option.some.injEq, beq_iff_eq] at h;subst h;exact ⟨rfl, by simp [Instr.sameBits]⟩
    · cases h
  · rename_i x y
    simp only [Option.some.injEq] at h;have := AG9 h;subst this;exact ⟨rfl, by simp [Instr.sameBits, E8]⟩
  · rename_i x y
    simp only [Option.some.injEq, beq_iff_eq] at h;subst h;exact ⟨rfl, by simp [Instr.sameBits]⟩
  · cases h
theorem oR {kd : TypeDesc} {k : Value} {v : V} : ∀ {es : List (V × V × Nat)} {r : Option (List (V × V × Nat))} (i0 : Nat), uT kd k v es = some r →
    (match r with
    | none => Instr.findNow kd k (es.map (Bo ρ)) i0 = some none
    | some es' => ∃ i e, Instr.findNow kd k (es.map (Bo ρ)) i0 = some (some (i0 + i, e.val)) ∧ (es.map (Bo ρ))[i]? = some e ∧ e.key = k ∧ Instr.sameBits 10000 k k = true ∧ es'.map (Bo ρ) = (es.map (Bo ρ)).modify i (fun e => { e with key := k, val := v.den ρ })) ∧
    ∀ n, v.lt n → (∀ e ∈ es, e.1.lt n ∧ e.2.1.lt n) → ∀ es', r = some es' → ∀ e ∈ es', e.1.lt n ∧ e.2.1.lt n
  | [], r, i0, h => by
    simp only [uT, Option.some.injEq] at h; subst h;exact ⟨rfl, fun n _ _ es' h => by cases h⟩
  | e :: es, r, i0, h => by
    simp only [uT] at h;split at h
    · rename_i k' he
      have hek : (Bo ρ e).key = k' := by simp only [Bo, he, V.den]
      split at h
      · rename_i hs
        obtain ⟨rfl, hb⟩ := lL hs;simp only [Option.some.injEq] at h; subst h;refine ⟨⟨0, Bo ρ e, by simp only [List.map_cons, Instr.findNow, hek, hs]; rfl, rfl, hek, hb, by simp [Bo, V.den]⟩, fun n hv hl es' h => ?_⟩;simp only [Option.some.injEq] at h; subst h;intro x hx;rcases List.mem_cons.1 hx with rfl | hx
        · exact ⟨by simp [V.lt], hv⟩
        · exact hl x (List.mem_cons_of_mem _ hx)
      · rename_i hs
        simp only [Ab, Option.some.injEq] at h;obtain ⟨r', hr', rfl⟩ := h;obtain ⟨ih, ihl⟩ := oR (i0 + 1) hr';cases r' with
        | none => exact ⟨by simpa only [Option.map_none, List.map_cons, Instr.findNow, hek, hs] using ih, fun n _ _ es' h => by cases h⟩
        | some es2 =>
          obtain ⟨i, x, f1, f2, f3, f4, f5⟩ := ih;refine ⟨⟨i + 1, x, by simp only [List.map_cons, Instr.findNow, hek, hs, f1]; congr 3; omega, by simpa using f2, f3, f4, by simp [f5]⟩, fun n hv hl es' h => ?_⟩;simp only [Option.map_some, Option.some.injEq] at h; subst h;intro y hy;rcases List.mem_cons.1 hy with rfl | hy
          · exact hl _ List.mem_cons_self
          · exact ihl n hv (fun e he => hl e (List.mem_cons_of_mem _ he)) _ rfl y hy
      · cases h
    · cases h
theorem Jg {P : Program} {r : Nat} {es0 es : Array MapEntry} {ck0 ck : Nat} (h : w.heap[r]? = some (.map es0 ck0)) : (setObj r (.map es ck)).run P w = .ok () (w.putObj r (.map es ck)) := by
  simp [setObj, Sem.run, h, World.putObj]
theorem oS (hA : At b0 Mk ρ s w) (he : Gk ρ D s a) {t : TypeId} {x y z : Operand} {m k v : V} {s' : St} (hm : Fg s.E x = some m) (hk : Fg s.E y = some k) (hv : Fg s.E z = some v) (h : uV c s t m k v = some s') {op : Op}
    (hop : (execOp a.eval (Bq op ty)) = do Instr.mapUpdate t (a.eval x) (a.eval y) (a.eval z); pure .skip) : fF c.P b0 Mk ρ s a w op ty none s' := by
  have e1 := he.ev hm;have e2 := he.ev hk;have e3 := he.ev hv;have l3 := he.lt hv;unfold uV at h;split at h
  · rename_i i k'
    simp only [Ab] at h;obtain ⟨ke, hM, kd, hK, _, hg, h⟩ := h;have hg := Uj hg;split at h
    · rename_i es ck hb
      obtain ⟨r, hr, h⟩ := Ab.1 h;obtain ⟨f1, f2⟩ := oR (ρ := ρ) 0 hr;obtain ⟨B, R, l0, hB, hw, hl0, hR0⟩ := hA.split hb;simp only [O.is] at hB;subst hB;have hw0 := hw.own (ρ.blk i, _) List.mem_cons_self;simp only at hw0;have hlt := (hA.k i _ hb).2;cases r with
      | none =>
        have h : some { s with H := s.H.set (i, .map (es ++ [(.raw k', v, ck)]) (ck + 1)) (i + 1), wr := Cm s.lo (i, 0, 0) s.wr } = some s' := h;simp only [Option.some.injEq] at h;subst h;refine ⟨⟨ρ, w.putObj (ρ.blk i) (.map ((es.map (Bo ρ)).toArray.push { key := k', val := v.den ρ, born := ck }) (ck + 1)), ?_, Aj.refl _ _, hA.put (o' := .map (es ++ [(.raw k', v, ck)]) (ck + 1)) hb (fun e hx => ?_) hl0 hR0 rfl ?_ _⟩, (fun v h => by cases h), Nat.le_refl _, rfl, rfl, rfl, rfl, rfl⟩
        · rw [hop, e1, e2, e3];simp only [Instr.mapUpdate, V.den, Sem.run_bind, Hl hM, Result.andThen_ok, Da hw0];rw [Og hg (Bs hK)];simp only [Result.andThen_ok, Instr.findKey, Sem.run_bind, Bs hK, f1, Sem.run_pure, Jg hw0];rfl
        · rcases List.mem_append.1 hx with hx | hx
          · exact hlt e hx
          · simp only [List.mem_singleton] at hx;subst hx;exact ⟨by simp [V.lt], l3⟩
        · have := SH.put (o' := .map (((es ++ [(V.raw k', v, ck)]).map (Bo ρ)).toArray) (ck + 1)) hw;simpa [Bo, V.den] using this
      | some es' =>
        obtain ⟨i', e, g1, g2, g3, g4, g5⟩ := f1;rw [Nat.zero_add] at g1;have h : some { s with H := s.H.set (i, .map es' ck) (i + 1), wr := Cm s.lo (i, 0, 0) s.wr } = some s' := h;simp only [Option.some.injEq] at h;subst h;have hks : (Instr.keyThatStays ((((es.map (Bo ρ)).toArray[i']?).map (·.key)).getD k') k').run c.P w = .ok k' w := by
          rw [List.getElem?_toArray, g2, Option.map_some, Option.getD_some, g3];simp [Instr.keyThatStays, g4]
        have hmod : (es.map (Bo ρ)).toArray.modify i' (fun e => { e with key := k', val := v.den ρ }) = (es'.map (Bo ρ)).toArray := by
          rw [g5]; simp
        refine ⟨⟨ρ, w.putObj (ρ.blk i) (.map (es'.map (Bo ρ)).toArray ck), ?_, Aj.refl _ _, hA.put (o' := .map es' ck) hb (f2 s.n l3 hlt es' rfl) hl0 hR0 rfl (SH.put hw) _⟩, (fun v h => by cases h), Nat.le_refl _, rfl, rfl, rfl, rfl, rfl⟩;rw [hop, e1, e2, e3];simp only [Instr.mapUpdate, V.den, Sem.run_bind, Hl hM, Result.andThen_ok, Da hw0];rw [Og hg (Bs hK)];simp only [Result.andThen_ok, Instr.findKey, Sem.run_bind, Bs hK, g1, Sem.run_pure, hks, hmod, Jg hw0];rfl
    · cases h
  · cases h
end
end Go.Proofs.YtbooaoddioibeaaGreatDoor.Jd

namespace Go.Proofs.YtbooaoddioibeaaGreatDoor.Jd
open Go.Proofs.Tryz
open Go.Proofs
open Go.RowKit (Below)
set_option linter.unusedVariables false
set_option linter.unusedSimpArgs false
section
variable {c : Dr} {b0 : World} {Mk : List Nat} {ρ : Au} {D : List Deferred} {s : St} {a : Act} {w : World} {ty : TypeId}
theorem oT {kd : TypeDesc} {k : Value} : ∀ {es r : List (V × V × Nat)} (i0 : Nat), uU kd k es = some r →
    ((Instr.findNow kd k (es.map (Bo ρ)) i0 = some none ∧ r = es) ∨ ∃ i u, Instr.findNow kd k (es.map (Bo ρ)) i0 = some (some (i0 + i, u)) ∧ i < es.length ∧ r.map (Bo ρ) = (es.map (Bo ρ)).eraseIdx i) ∧ ∀ e ∈ r, e ∈ es
  | [], r, i0, h => by
    simp only [uU, Option.some.injEq] at h; subst h;exact ⟨.inl ⟨rfl, rfl⟩, fun e h => h⟩
  | e :: es, r, i0, h => by
    simp only [uU] at h;split at h
    · rename_i k' he
      have hek : (Bo ρ e).key = k' := by simp only [Bo, he, V.den]
      split at h
      · rename_i hs
        simp only [Option.some.injEq] at h; subst h;exact ⟨.inr ⟨0, (Bo ρ e).val, by simp only [List.map_cons, Instr.findNow, hek, hs]; rfl, by simp, by simp⟩, fun x hx => List.mem_cons_of_mem _ hx⟩
      · rename_i hs
        simp only [Ab, Option.some.injEq] at h;obtain ⟨r', hr', rfl⟩ := h;obtain ⟨ih, ihl⟩ := oT (i0 + 1) hr';refine ⟨?_, fun x hx => ?_⟩
        · rcases ih with ⟨g1, g2⟩ | ⟨i, u, g1, g2, g3⟩
          · exact .inl ⟨by simp only [List.map_cons, Instr.findNow, hek, hs, g1], by rw [g2]⟩
          · exact .inr ⟨i + 1, u, by simp only [List.map_cons, Instr.findNow, hek, hs, g1]; congr 3; omega, by simpa using g2, by simp [g3]⟩
        · rcases List.mem_cons.1 hx with rfl | hx
          · exact List.mem_cons_self
          · exact List.mem_cons_of_mem _ (ihl x hx)
      · cases h
    · cases h
theorem lM (hA : At b0 Mk ρ s w) {t : TypeId} {ts : List TypeId} {m k v : V} {s' : St} (h : Sn c s t m k = some (v, s')) :
    ∃ w', (Builtin.delete_ (t :: ts).toArray ty #[m.den ρ, k.den ρ]).run c.P w = .ok (v.den ρ) w' ∧ At b0 Mk ρ s' w' ∧ (∀ n, v.lt n) ∧ s'.n = s.n ∧ s'.N = s.N ∧ s'.E = s.E ∧ s'.ms = s.ms ∧ s'.rd = s.rd ∧ s'.lo = s.lo := by
  unfold Sn at h;split at h
  · rename_i i k'
    simp only [Ab] at h;obtain ⟨ke, hM, kd, hK, _, hg, h⟩ := h;have hg := Uj hg;split at h
    · rename_i es ck hb
      simp only [Ab] at h;obtain ⟨es', hr, s2, l4, h⟩ := h;simp only [Option.some.injEq, Prod.mk.injEq] at h;obtain ⟨rfl, rfl⟩ := h;have l4 : some { s with H := s.H.set (i, .map es' ck) (i + 1), wr := Cm s.lo (i, 0, 0) s.wr } = some s2 := l4;simp only [Option.some.injEq] at l4;subst l4;obtain ⟨f1, f2⟩ := oT (ρ := ρ) 0 hr;obtain ⟨B, R, l0, hB, hw, hl0, hR0⟩ := hA.split hb;simp only [O.is] at hB;subst hB;have hw0 := hw.own (ρ.blk i, _) List.mem_cons_self;simp only at hw0;have hlt := (hA.k i _ hb).2;refine ⟨w.putObj (ρ.blk i) (.map (es'.map (Bo ρ)).toArray ck), ?_, hA.put (o' := .map es' ck) hb (fun e he => hlt e (f2 e he)) hl0 hR0 rfl (SH.put hw) _, fun n => by simp [Kq, V.lt], rfl, rfl, rfl, rfl, rfl, rfl⟩;have hset : ∀ es0 : Array MapEntry, (setObj (ρ.blk i) (.map es0 ck)).run c.P w = .ok () (w.putObj (ρ.blk i) (.map es0 ck)) := fun es0 => Jg hw0
      have hck : ∀ b, (Instr.checkKey b 10000 ke.1 k').run c.P w = .ok () w := fun b => Og hg (Bs hK) w
      rcases f1 with ⟨g1, rfl⟩ | ⟨j, u, g1, g2, g3⟩
      · simp [Builtin.delete_, V.den, Hl hM, Da hw0, hck, Instr.findKey, Bs hK, g1, hset, Kq]
      · simp [Builtin.delete_, V.den, Hl hM, Da hw0, hck, Instr.findKey, Bs hK, g1, hset, Kq];rw [g3]
    · cases h
  · cases h
end
end Go.Proofs.YtbooaoddioibeaaGreatDoor.Jd

namespace Go.Proofs.YtbooaoddioibeaaGreatDoor.Jd
open Go.Proofs.Tryz
open Go.Proofs
open Go.RowKit (Below)
set_option linter.unusedVariables false
set_option linter.unusedSimpArgs false
section
variable {c : Dr} {b0 : World} {Mk : List Nat} {ρ : Au} {D : List Deferred} {s : St} {a : Act} {w : World} {ty : TypeId}
theorem fF.new (hA : At b0 Mk ρ s w) (hM : ∀ k ∈ Mk, k < b0.heap.size) {P : Program} {op : Op} {o : O} {obj : Obj} (h2 : ∀ σ, Aj s.n ρ σ → o.is σ s.n [(σ.blk s.n, obj)]) (ol : o.lt s.n)
    (hrun : (execOp a.eval (Bq op ty)).run P w = .ok (.value (.pointer (some ⟨w.heap.size, 0, none⟩))) (w.alloc obj)) : fF P b0 Mk ρ s a w op ty (some (.ptr s.n 0)) { s with n := s.n + 1, H := s.H.set (s.n, o) (s.n + 1) } :=
  ⟨⟨ρ.nxt s w, _, by simp only [nxt, V.den, oQ]; exact hrun, aV, hA.alloc hM h2 ol⟩, fun v h => by simp only [Option.some.injEq] at h; subst h; simp [V.lt], by simp, rfl, rfl, rfl, rfl, rfl⟩
theorem lO (hA : At b0 Mk ρ s w) (hM : ∀ k ∈ Mk, k < b0.heap.size) (he : Gk ρ D s a) {t : TypeId} {x : Operand} {b : ByteArray} {u : Unit} (hx : Fg s.E x = some (.raw (.string b))) (hS : Jr c t = some u) :
    fF c.P b0 Mk ρ s a w (.range t x) ty (some (.ptr s.n 0)) { s with n := s.n + 1, H := s.H.set (s.n, .str b 0) (s.n + 1) } := by
  have e1 := he.ev hx;refine .new hA hM (obj := .stringIter b 0) (fun σ _ => rfl) trivial ?_;simp [Bq, execOp, e1, V.den, Instr.range, Hm hS]
theorem lP (hA : At b0 Mk ρ s w) (hM : ∀ k ∈ Mk, k < b0.heap.size) (he : Gk ρ D s a) {t : TypeId} {x : Operand} {i ck : Nat} {es : List (V × V × Nat)} {u : TypeId × TypeId} (hx : Fg s.E x = some (.mp i)) (hS : Vg c t = some u) (hb : s.blk i = some (.map es ck)) :
    fF c.P b0 Mk ρ s a w (.range t x) ty (some (.ptr s.n 0)) { s with n := s.n + 1, H := s.H.set (s.n, .mit i ck [] ck) (s.n + 1) } := by
  have e1 := he.ev hx;have hi := (hA.k i _ hb).1;obtain ⟨B, R, l0, hB, hw, hl0, hR0⟩ := hA.split hb;simp only [O.is] at hB;subst hB;have hw0 := hw.own (ρ.blk i, _) List.mem_cons_self;simp only at hw0;refine .new hA hM (obj := .mapIter (some (ρ.blk i)) ck #[] ck) (fun σ hσ => by simp only [O.is]; rw [hσ.blk i hi]) hi ?_;simp [Bq, execOp, e1, V.den, Instr.range, Hl hS, Da hw0]
theorem Xz {P : Program} {r p q : Nat} {b : ByteArray} (h : w.heap[r]? = some (.stringIter b p)) : (setObj r (.stringIter b q)).run P w = .ok () (w.putObj r (.stringIter b q)) := by
  simp [setObj, Sem.run, h, World.putObj]
theorem qY (hA : At b0 Mk ρ s w) (he : Gk ρ D s a) {x : Operand} {i pos : Nat} {b : ByteArray} (hx : Fg s.E x = some (.ptr i 0)) (hb : s.blk i = some (.str b pos)) :
    if pos < b.size then fF c.P b0 Mk ρ s a w (.next x true) ty (some (.raw (.tuple #[.bool true, goInt pos, .int .i32 (Utf8.decode b pos).1]))) { s with H := s.H.set (i, .str b (pos + (Utf8.decode b pos).2)) (i + 1), wr := Cm s.lo (i, 0, 0) s.wr }
    else fF c.P b0 Mk ρ s a w (.next x true) ty (some (.raw (.tuple #[.bool false]))) s := by
  have e1 := he.ev hx;obtain ⟨B, R, l0, hB, hw, hl0, hR0⟩ := hA.split hb;simp only [O.is] at hB;subst hB;have hw0 := hw.own (ρ.blk i, _) List.mem_cons_self;simp only at hw0;have hg : (getObj (ρ.blk i)).run c.P w = .ok (.stringIter b pos) w := by simp [getObj, hw0, Sem.run]
  split
  · rename_i hp
    refine ⟨⟨ρ, _, ?_, Aj.refl _ _, hA.put (o' := .str b (pos + (Utf8.decode b pos).2)) hb trivial hl0 hR0 rfl (SH.put hw) _⟩, fun v h => by simp only [Option.some.injEq] at h; subst h; simp [V.lt], Nat.le_refl _, rfl, rfl, rfl, rfl, rfl⟩;simp [Bq, execOp, e1, V.den, Instr.next, hg, hp, Xz hw0, nxt]
  · rename_i hp
    refine ⟨⟨ρ, w, ?_, Aj.refl _ _, hA⟩, fun v h => by simp only [Option.some.injEq] at h; subst h; simp [V.lt], Nat.le_refl _, rfl, rfl, rfl, rfl, rfl⟩;simp [Bq, execOp, e1, V.den, Instr.next, hg, hp, nxt]
end
end Go.Proofs.YtbooaoddioibeaaGreatDoor.Jd

namespace Go.Proofs.YtbooaoddioibeaaGreatDoor.Jd
open Go.Proofs.Tryz
open Go.Proofs
open Go.RowKit (Below)
set_option linter.unusedVariables false
set_option linter.unusedSimpArgs false
section
variable {P : Program} {rd : Option Nat} {ops : Array Oper} {T : Act → World → Prop}
abbrev Fs := List (Nat × (World → Prop))
def Ge (S : World → Prop) : Prop := ∀ w o, S w → S (w.alloc o)
theorem E9 {j q : Nat} {o : Oper} (ho : ops[j]? = some o) (h : ∀ e ∈ o.after, Region.binds .any e = true → e.on ≠ q) : Uf ops j q = false := by
  simp only [Uf, ho];cases hh : o.after.any fun e => Region.binds .any e && Nat.beq e.on q with
  | false => rfl
  | true =>
    obtain ⟨e, he, hb⟩ := Array.any_eq_true'.1 hh;simp only [Bool.and_eq_true, Nat.beq_eq] at hb;exact absurd (by simpa using hb.2) (h e he hb.1)
def sD (P : Program) (rd : Option Nat) (ops : Array Oper) (n : Nat) (Fin : Array Bool → Act → World → Prop) : Nat → Fs → Array Bool → Act → World → Prop
  | 0, _, listed, a, w => Fin listed a w
  | f + 1, F, listed, a, w => Region.ready .any ops listed ≠ [] ∧ ∀ i ∈ Region.ready .any ops listed, i < n ∧
      wpO P rd ops i (fun a' w' => ∃ F' : Fs, (∀ p ∈ F, Uf ops i p.1 = false → p ∈ F') ∧ (∀ p ∈ F', p.2 w') ∧ sD P rd ops n Fin f F' (listed.setIfInBounds i true) a' w') a w
theorem F1 {n : Nat} {Fin : Array Bool → Act → World → Prop} {f : Nat} {F F0 : Fs} {listed : Array Bool} {a : Act} {w : World} (hs : ∀ p ∈ F0, p ∈ F) (h : sD P rd ops n Fin f F listed a w) : sD P rd ops n Fin f F0 listed a w := by
  cases f with
  | zero => exact h
  | succ f => exact ⟨h.1, fun i hi => ⟨(h.2 i hi).1, Wr (fun a' w' ⟨F', h1, h2, h3⟩ => ⟨F', fun p hp => h1 p (hs p hp), h2, h3⟩) (h.2 i hi).2⟩⟩
theorem Oh {n g : Nat} {Fin : Array Bool → Act → World → Prop} {Q : Exit → Act → World → Prop} (hF : ∀ listed a w, Fin listed a w → wpAnyIn (FW rd) 0 P .any ops Q g listed a w) :
    ∀ (f : Nat) (F : Fs) (listed : Array Bool) (a : Act) (w : World), sD P rd ops n Fin f F listed a w → wpAnyIn (FW rd) 0 P .any ops Q (f + g) listed a w
  | 0, _, listed, a, w, h => by rw [Nat.zero_add]; exact hF _ _ _ h
  | f + 1, F, listed, a, w, h => by
    rw [show f + 1 + g = (f + g) + 1 by omega];exact ⟨fun h0 => absurd h0 h.1, fun i hi => wpOpIn_mono (fun a' w' h' => by obtain ⟨F', _, _, h'⟩ := h'; exact Oh hF f F' _ a' w' h') (Hb (h.2 i hi).2)⟩
theorem qZ {n i : Nat} {oi : Oper} {v : Value} {S : World → Prop} {Fin : Array Bool → Act → World → Prop} (hi : ops[i]? = some oi) (hnd : ∀ (j : Nat) (o : Oper), ops[j]? = some o → Ax o = true)
    (htl : ∀ listed, HeadInv .any ops n listed → ∀ i, i < n → listed.getD i true = false → ∀ j ∈ Region.ready .any ops listed, j < n) (hin : i < n)
    (hdone : ∀ listed a w, Fin listed a w → ∀ j ∈ Region.ready .any ops listed, n ≤ j) :
    ∀ (f : Nat) (F : Fs) (listed : Array Bool) (a : Act) (w : World), HeadInv .any ops n listed →
      (∀ (j : Nat) (oj : Oper), ops[j]? = some oj → j ≠ i → listed.getD j true = false → (∀ e ∈ oj.after, Region.binds .any e = true → e.on ≠ i) → oi.apart ops oj = true) →
      i ∈ Region.ready .any ops listed → Dc P ops S oi v a → (i, S) ∈ F → (∀ p ∈ F, p.2 w) →
      sD P rd ops n Fin f F (listed.setIfInBounds i true) (a.put oi.dst v) w → sD P rd ops n Fin (f + 1) F listed a w := by
  intro f
  induction f with
  | zero =>
    intro F listed a w inv _ hr hy hS hF H;have hun := (mem_ready.1 hr).1;refine ⟨fun h => (by rw [h] at hr; cases hr), fun j hj => ?_⟩;have hjn := htl listed inv i hin hun j hj;refine ⟨hjn, ?_⟩;by_cases hji : j = i
    · subst hji; exact hy.wpO hi (hnd _ _ hi) (hF _ hS) ⟨F, fun _ h _ => h, hF, H⟩
    · have := hdone _ _ _ H j (ready_mono hj hji);omega
  | succ f ih =>
    intro F listed a w inv hfree hr hy hS hF H;have hun := (mem_ready.1 hr).1;refine ⟨fun h => (by rw [h] at hr; cases hr), fun j hj => ?_⟩;have hjn := htl listed inv i hin hun j hj;refine ⟨hjn, ?_⟩;by_cases hji : j = i
    · subst hji; exact hy.wpO hi (hnd _ _ hi) (hF _ hS) ⟨F, fun _ h _ => h, hF, H⟩
    · have h1 := (H.2 j (ready_mono hj hji)).2;obtain ⟨hjun, oj, hoj, hall⟩ := mem_ready.1 hj;have hnot : ∀ e ∈ oj.after, Region.binds .any e = true → e.on ≠ i := fun e he hb heq => by
        have h1 := hall e he hb;rw [heq, getD_both hun] at h1;cases h1
      have h2 := mO hoj (hfree j oj hoj hji hjun hnot) (hnd _ _ hi) (hnd _ _ hoj) hy h1;have hfree' : ∀ k ok, ops[k]? = some ok → k ≠ i → (listed.setIfInBounds j true).getD k true = false →
          (∀ e ∈ ok.after, Region.binds .any e = true → e.on ≠ i) → oi.apart ops ok = true := fun k ok hk hki hun hno => by
        refine hfree k ok hk hki ?_ hno;by_cases hjk : j = k
        · subst hjk; exact hjun
        · rw [getD_set_ne true hjk] at hun; exact hun
      refine Wr (fun a' w' h3 => ?_) h2;obtain ⟨hy', F', hFF, hF', h4⟩ := h3;have hS' := hFF _ hS (E9 hoj hnot);refine ⟨F', hFF, hF', ih F' (listed.setIfInBounds j true) a' w' (inv.set hj hjn) hfree' (ready_mono hr (Ne.symm hji)) hy' hS' hF' ?_⟩;rw [Array.setIfInBounds_comm _ _ hji];exact h4

theorem wJ {oz o : Oper} {v : Value} (hap : oz.apart ops o = true) (hd : Ax o = true) {K K' : Act → World → Prop} {a : Act} {w : World} (hk : ∀ a' w', K a' w' → K' (a'.put oz.dst v) w')
    (h : o.wpIn (FW rd) 0 P a w K (nQ fun _ _ => False)) : o.wpIn (FW rd) 0 P (a.put oz.dst v) w K' (nQ fun _ _ => False) := by
  obtain ⟨h1, h2, h3⟩ := Oper.apart_spec hap;have hs := Dz hd;unfold Oper.wpIn at *;refine ⟨fun _ _ => trivial, ?_⟩
  replace h := h.2
  rw [Oper.semAt_eq _ _ _ (Ds hd)] at *;rw [execOp_put o hs a oz.dst v h1];generalize (execOp a.eval o).run P w = r at *;cases r with
  | ok n w' =>
    cases n <;> simp only [Oper.uponIn] at h ⊢
    case value u => rw [Act.put_comm a v u h2]; exact hk _ _ h
    case skip => rw [Act.put_comm a v undef h2]; exact hk _ _ h
    case defer d =>
      have := hk _ _ h;rw [← Act.put_comm _ v undef h2, ← Act.put_defers] at this;exact this
    case enter f args =>
      refine ⟨h.1, CallsIn.mono h.2 fun e w'' he => ?_⟩;cases e with
      | returned u =>
        try simp only at he ⊢
        rw [Act.put_comm a v u h2]; exact hk _ _ he
      | panicked c => exact he.elim
      | outgrown => exact he
    case row row args => exact ⟨h.1, RowsIn.mono h.2 fun u w'' he => by
      try simp only at he ⊢
      rw [Act.put_comm a v u h2]; exact hk _ _ he⟩
    case round l f tmps assign body =>
      refine ⟨h.1, RoundIn.mono h.2 fun e w'' he => ?_⟩;cases e with
      | returned u =>
        try simp only at he ⊢
        rw [Act.put_comm a v u h2]; exact hk _ _ he
      | panicked c => exact he.elim
      | outgrown => exact he
  | halt x w' => cases x <;> simp only [Oper.uponIn] at h ⊢ <;> exact h.elim
theorem rE {o : Oper} (hd : Ax o = true) {R : Act → Prop} (hR : ∀ a v, R a → R (a.put o.dst v)) {K : Act → World → Prop} {a : Act} {w : World} (hr : R a) (hD : ∀ a d, R a → R { a with defers := d :: a.defers })
    (h : o.wpIn (FW rd) 0 P a w K (nQ fun _ _ => False)) : o.wpIn (FW rd) 0 P a w (fun a' w' => R a' ∧ K a' w') (nQ fun _ _ => False) := by
  unfold Oper.wpIn at *;refine ⟨fun _ _ => trivial, ?_⟩
  replace h := h.2
  generalize (o.semAt (FW rd).round a.eval).run P w = r at *;cases r with
  | ok n w' =>
    cases n <;> simp only [Oper.uponIn] at h ⊢
    case value u => exact ⟨hR _ _ hr, h⟩
    case skip => exact ⟨hR _ _ hr, h⟩
    case defer d => exact ⟨hR _ _ (hD _ _ hr), h⟩
    case enter f args =>
      refine ⟨h.1, CallsIn.mono h.2 fun e w'' he => ?_⟩;cases e with
      | returned u => exact ⟨hR _ _ hr, he⟩
      | panicked c => exact he.elim
      | outgrown => exact he
    case row row args => exact ⟨h.1, RowsIn.mono h.2 fun u w'' he => ⟨hR _ _ hr, he⟩⟩
    case round l f tmps assign body =>
      refine ⟨h.1, RoundIn.mono h.2 fun e w'' he => ?_⟩;cases e with
      | returned u => exact ⟨hR _ _ hr, he⟩
      | panicked c => exact he.elim
      | outgrown => exact he
  | halt x w' => cases x <;> simp only [Oper.uponIn] at h ⊢ <;> exact h.elim
end
end Go.Proofs.YtbooaoddioibeaaGreatDoor.Jd

namespace Go.Proofs.YtbooaoddioibeaaGreatDoor.Jd
open Go.Proofs.Tryz
open Go.Proofs
open Go.RowKit (Below)
set_option linter.unusedVariables false
set_option linter.unusedSimpArgs false
section
variable {P : Program} {rd : Option Nat} {ops : Array Oper} {T : Act → World → Prop}
structure Fl where
  i : Nat
  o : Oper
  obj : Obj
  val : Nat → Value
structure YA (P : Program) (ops : Array Oper) (y : Fl) (a : Act) : Prop where
  want : Region.wanted y.o (yielded ops a.tmps) = true
  run : ∀ w : World, (execOp a.eval y.o).run P w = .ok (.value (y.val w.heap.size)) (w.alloc y.obj)
abbrev Zs := List (Fl × Option Nat)
def Eg (l : Array Bool) : Zs → Array Bool
  | [] => l
  | (y, some _) :: r => (Eg l r).setIfInBounds y.i true
  | (_, none) :: r => Eg l r
def Gm (a : Act) : Zs → Act
  | [] => a
  | (y, some b) :: r => (Gm a r).put y.o.dst (y.val b)
  | (_, none) :: r => Gm a r
def Fv : Zs → Nat
  | [] => 0
  | (_, some _) :: r => Fv r + 1
  | (_, none) :: r => Fv r
def Vt : Zs → Nat
  | [] => 0
  | (_, some _) :: r => Vt r
  | (_, none) :: r => Vt r + 1
theorem Kw : ∀ Z, Fv Z ≤ Z.length
  | [] => Nat.le_refl _
  | (_, some _) :: r => by simp only [Fv, List.length_cons]; have := Kw r; omega
  | (_, none) :: r => by simp only [Fv, List.length_cons]; have := Kw r; omega
theorem iO (l : Array Bool) (i j : Nat) : (l.setIfInBounds i true).setIfInBounds j true = (l.setIfInBounds j true).setIfInBounds i true := by
  by_cases h : i = j
  · subst h; rfl
  · exact Array.setIfInBounds_comm _ _ h
theorem Kx (l : Array Bool) (i : Nat) : ∀ Z, Eg (l.setIfInBounds i true) Z = (Eg l Z).setIfInBounds i true
  | [] => rfl
  | (y, some _) :: r => by simp only [Eg, Kx l i r]; exact iO _ _ _
  | (_, none) :: r => by simp only [Eg, Kx l i r]
theorem Um (l : Array Bool) (y : Fl) (Z2 : Zs) : ∀ Z1, Eg l (Z1 ++ (y, none) :: Z2) = Eg l (Z1 ++ Z2)
  | [] => rfl
  | (z, some _) :: r => by simp only [List.cons_append, Eg, Um l y Z2 r]
  | (_, none) :: r => by simp only [List.cons_append, Eg, Um l y Z2 r]
theorem Pu (l : Array Bool) (y : Fl) (b : Nat) (Z2 : Zs) : ∀ Z1, Eg l (Z1 ++ (y, some b) :: Z2) = (Eg l (Z1 ++ Z2)).setIfInBounds y.i true
  | [] => rfl
  | (z, some _) :: r => by simp only [List.cons_append, Eg, Pu l y b Z2 r]; exact iO _ _ _
  | (_, none) :: r => by simp only [List.cons_append, Eg, Pu l y b Z2 r]
theorem Oi {dst : Option Tmp} (v : Value) (a : Act) : ∀ {Z : Zs}, (∀ z ∈ Z, ∀ d, z.1.o.dst = some d → dst ≠ some d) → Gm (a.put dst v) Z = (Gm a Z).put dst v
  | [], _ => rfl
  | (y, some b) :: r, h => by
    simp only [Gm, Oi v a fun z hz => h z (List.mem_cons_of_mem _ hz)];exact (Act.put_comm _ _ _ (h (y, some b) List.mem_cons_self)).symm
  | (_, none) :: r, h => by simp only [Gm, Oi v a fun z hz => h z (List.mem_cons_of_mem _ hz)]
theorem Un (a : Act) (y : Fl) (Z2 : Zs) : ∀ Z1, Gm a (Z1 ++ (y, none) :: Z2) = Gm a (Z1 ++ Z2)
  | [] => rfl
  | (z, some _) :: r => by simp only [List.cons_append, Gm, Un a y Z2 r]
  | (_, none) :: r => by simp only [List.cons_append, Gm, Un a y Z2 r]
theorem Pv (a : Act) (y : Fl) (b : Nat) (Z2 : Zs) : ∀ Z1 : Zs, (∀ z ∈ Z1, ∀ d, z.1.o.dst = some d → y.o.dst ≠ some d) → Gm a (Z1 ++ (y, some b) :: Z2) = (Gm a (Z1 ++ Z2)).put y.o.dst (y.val b)
  | [], _ => rfl
  | (z, some b') :: r, h => by
    simp only [List.cons_append, Gm, Pv a y b Z2 r fun z hz => h z (List.mem_cons_of_mem _ hz)];exact (Act.put_comm _ _ _ (h (z, some b') List.mem_cons_self)).symm
  | (_, none) :: r, h => by simp only [List.cons_append, Gm, Pv a y b Z2 r fun z hz => h z (List.mem_cons_of_mem _ hz)]
theorem Jh (y : Fl) (b : Nat) (Z2 : Zs) : ∀ Z1, Fv (Z1 ++ (y, some b) :: Z2) = Fv (Z1 ++ Z2) + 1
  | [] => rfl
  | (z, some _) :: r => by simp only [List.cons_append, Fv, Jh y b Z2 r]
  | (_, none) :: r => by simp only [List.cons_append, Fv, Jh y b Z2 r]
theorem Ji (y : Fl) (Z2 : Zs) : ∀ Z1, Fv (Z1 ++ (y, none) :: Z2) = Fv (Z1 ++ Z2)
  | [] => rfl
  | (z, some _) :: r => by simp only [List.cons_append, Fv, Ji y Z2 r]
  | (_, none) :: r => by simp only [List.cons_append, Fv, Ji y Z2 r]
theorem Pw (y : Fl) (b : Nat) (Z2 : Zs) : ∀ Z1, Vt (Z1 ++ (y, some b) :: Z2) = Vt (Z1 ++ Z2)
  | [] => rfl
  | (z, some _) :: r => by simp only [List.cons_append, Vt, Pw y b Z2 r]
  | (_, none) :: r => by simp only [List.cons_append, Vt, Pw y b Z2 r]
theorem Ir (y : Fl) (Z2 : Zs) : ∀ Z1, Vt (Z1 ++ (y, none) :: Z2) = Vt (Z1 ++ Z2) + 1
  | [] => rfl
  | (z, some _) :: r => by simp only [List.cons_append, Vt, Ir y Z2 r]
  | (_, none) :: r => by simp only [List.cons_append, Vt, Ir y Z2 r]
theorem Px {l : Array Bool} {k : Nat} (h : l.getD k false = true) : ∀ Z, (Eg l Z).getD k false = true
  | [] => h
  | (y, some _) :: r => getD_set_true (Px h r)
  | (_, none) :: r => Px h r
theorem Uo (l : Array Bool) : ∀ Z, (Eg l Z).size = l.size
  | [] => rfl
  | (y, some _) :: r => by simp only [Eg, Array.size_setIfInBounds, Uo l r]
  | (_, none) :: r => Uo l r
theorem Oj {l : Array Bool} {i : Nat} (d : Bool) (h : i < l.size) : (l.setIfInBounds i true).getD i d = true := by simp [h]
theorem Ju {l : Array Bool} {j : Nat} : ∀ {Z : Zs}, (∀ z ∈ Z, z.1.i < l.size) → ((Eg l Z).getD j true = false ↔ l.getD j true = false ∧ ∀ z ∈ Z, ∀ b, z.2 = some b → z.1.i ≠ j)
  | [], _ => by simp [Eg]
  | (y, some b) :: r, hs => by
    have ih := Ju (l := l) (j := j) (Z := r) fun z hz => hs z (List.mem_cons_of_mem _ hz)
    simp only [Eg];by_cases e : y.i = j
    · subst e;rw [Oj true (by rw [Uo]; exact hs _ List.mem_cons_self)];refine ⟨fun h => (by cases h), fun ⟨_, h⟩ => absurd rfl (h (y, some b) List.mem_cons_self b rfl)⟩
    · rw [getD_set_ne true e, ih];refine ⟨fun ⟨h1, h2⟩ => ⟨h1, fun z hz b hb => ?_⟩, fun ⟨h1, h2⟩ => ⟨h1, fun z hz => h2 z (List.mem_cons_of_mem _ hz)⟩⟩;rcases List.mem_cons.1 hz with rfl | hz
      · exact e
      · exact h2 z hz b hb
  | (y, none) :: r, hs => by
    have ih := Ju (l := l) (j := j) (Z := r) fun z hz => hs z (List.mem_cons_of_mem _ hz)
    simp only [Eg];rw [ih];refine ⟨fun ⟨h1, h2⟩ => ⟨h1, fun z hz b hb => ?_⟩, fun ⟨h1, h2⟩ => ⟨h1, fun z hz => h2 z (List.mem_cons_of_mem _ hz)⟩⟩;rcases List.mem_cons.1 hz with rfl | hz
    · cases hb
    · exact h2 z hz b hb
theorem Py {l : Array Bool} {k : Nat} : ∀ {ys : List Nat}, l.getD k false = true ∨ (k ∈ ys ∧ k < l.size) → (Dy l ys).getD k false = true
  | [], h => h.elim id fun h => by cases h.1
  | y :: ys, h => by
    have hsz : ∀ ys, (Dy l ys).size = l.size := fun ys => by induction ys with | nil => rfl | cons z r ih => simp only [Dy, List.foldr_cons, Array.size_setIfInBounds] at *; exact ih
    simp only [Dy, List.foldr_cons];by_cases e : y = k
    · subst e;rcases h with h | ⟨h, hl⟩
      · exact getD_set_true (Py (.inl h))
      · exact Oj false (by have := hsz ys; simp only [Dy] at this; rw [this]; exact hl)
    · rw [getD_set_ne false e];exact Py (h.imp id fun ⟨h, hl⟩ => ⟨(List.mem_cons.1 h).resolve_left (Ne.symm e), hl⟩)
theorem aW {l : Array Bool} {k : Nat} (h : l.getD k true = false) : ∀ {ys : List Nat}, k ∉ ys → (Dy l ys).getD k true = false
  | [], _ => h
  | y :: ys, hk => by
    simp only [Dy, List.foldr_cons];rw [getD_set_ne true (fun e => hk (by rw [e]; exact List.mem_cons_self))];exact aW h fun hm => hk (List.mem_cons_of_mem _ hm)
theorem Ok {l l' : Array Bool} {j : Nat} (h : ∀ k, l.getD k false = true → l'.getD k false = true) (hj : l'.getD j true = false) (hr : j ∈ Region.ready .any ops l) : j ∈ Region.ready .any ops l' := by
  rw [mem_ready] at *;obtain ⟨_, o, ho, hall⟩ := hr;exact ⟨hj, o, ho, fun e he hb => h _ (hall e he hb)⟩
theorem aX {l l' : Array Bool} {i : Nat} (h : ∀ k, l'.getD k true = false → l.getD k true = false) (hf : Region.free .any ops l i = true) : Region.free .any ops l' i = true := by
  unfold Region.free at *;split at hf
  · cases hf
  · rename_i oi hoi
    rw [List.all_eq_true] at *;intro j hj;have := hf j hj;simp only [Bool.or_eq_true] at *;rcases this with (h1 | h1) | h1
    · exact .inl (.inl h1)
    · refine .inl (.inr ?_);cases hh : l'.getD j true with
      | true => rfl
      | false => rw [h j hh] at h1; cases h1
    · exact .inr h1
/-- What is announced is ready and free. -/
structure jY (ops : Array Oper) (n : Nat) (Lp : Array Bool) (Z : Zs) : Prop where
  nd : (Z.map fun z => z.1.i).Nodup
  op : ∀ z ∈ Z, ops[z.1.i]? = some z.1.o ∧ z.1.i < n
  rdy : ∀ z ∈ Z, z.1.i ∈ Region.ready .any ops Lp
  free : ∀ z ∈ Z, Region.free .any ops Lp z.1.i = true
theorem jY.apart {n : Nat} {Lp : Array Bool} {Z : Zs} (h : jY ops n Lp Z) {z : Fl × Option Nat} (hz : z ∈ Z) {j : Nat} {oj : Oper} (hj : ops[j]? = some oj) (hr : j ∈ Region.ready .any ops Lp) (hne : j ≠ z.1.i) : z.1.o.apart ops oj = true := by
  refine Region.free_spec (h.op z hz).1 (h.free z hz) j oj hj hne (mem_ready.1 hr).1 fun e he hb heq => ?_
  obtain ⟨_, o, ho, hall⟩ := mem_ready.1 hr;have : o = oj := Option.some.inj (ho.symm.trans hj);subst this;have h1 := hall e he hb;rw [heq, getD_both (mem_ready.1 (h.rdy z hz)).1] at h1;cases h1
theorem jY.next {n : Nat} {Lp : Array Bool} {Z : Zs} (h : jY ops n Lp Z) {i : Nat} (hi : ∀ z ∈ Z, z.1.i ≠ i) : jY ops n (Lp.setIfInBounds i true) Z :=
  ⟨h.nd, h.op, fun z hz => ready_mono (h.rdy z hz) (hi z hz), fun z hz => aX (fun k hk => by
    by_cases e : i = k
    · subst e;by_cases hlt : i < Lp.size
      · rw [Oj true hlt] at hk; cases hk
      · have : (Lp.setIfInBounds i true).getD i true = true := by simp [hlt]
        rw [this] at hk; cases hk
    · rwa [getD_set_ne true e] at hk) (h.free z hz)⟩
theorem jY.sub {n : Nat} {Lp : Array Bool} {Z Z' : Zs} (h : jY ops n Lp Z) (hs : List.Sublist Z' Z) : jY ops n Lp Z' :=
  ⟨(hs.map _).nodup h.nd, fun z hz => h.op z (hs.subset hz), fun z hz => h.rdy z (hs.subset hz), fun z hz => h.free z (hs.subset hz)⟩
theorem Me {n : Nat} {Lp : Array Bool} (inv : HeadInv .any ops n Lp) : ∀ {Z : Zs}, jY ops n Lp Z → HeadInv .any ops n (Eg Lp Z)
  | [], _ => inv
  | (y, some b) :: r, h => by
    have hr := h.sub (List.sublist_cons_self _ _);have ih := Me inv hr;simp only [Eg];refine ih.set ?_ (h.op _ List.mem_cons_self).2;refine Ok (fun k hk => Px hk r) ?_ (h.rdy _ List.mem_cons_self);refine (Ju (fun z hz => ?_)).2 ⟨(mem_ready.1 (h.rdy _ List.mem_cons_self)).1, fun z hz _ _ e => ?_⟩
    · rw [inv.size]; exact (Array.getElem?_eq_some_iff.1 (hr.op z hz).1).1
    · have := h.nd;simp only [List.map_cons, List.nodup_cons] at this;exact this.1 (List.mem_map.2 ⟨z, hz, e⟩)
  | (y, none) :: r, h => Me (Z := r) inv (h.sub (List.sublist_cons_self _ _))
theorem Hq {o : Oper} (hd : Ax o = true) (a : Act) : ∀ {Z : Zs}, (∀ z ∈ Z, z.1.o.apart ops o = true) → execOp (Gm a Z).eval o = execOp a.eval o ∧ Region.wanted o (yielded ops (Gm a Z).tmps) = Region.wanted o (yielded ops a.tmps)
  | [], _ => ⟨rfl, rfl⟩
  | (y, some b) :: r, h => by
    obtain ⟨h1, h2⟩ := Hq hd a fun z hz => h z (List.mem_cons_of_mem _ hz)
    have hap := (Oper.apart_spec (h (y, some b) List.mem_cons_self)).1;simp only [Gm];exact ⟨(execOp_put o (Dz hd) _ _ _ hap).trans h1, (wanted_put o _ _ _ hap).trans h2⟩
  | (_, none) :: r, h => Hq (Z := r) hd a fun z hz => h z (List.mem_cons_of_mem _ hz)
theorem Uq {o : Oper} (hd : Ax o = true) {K : Act → World → Prop} {a : Act} {w : World} : ∀ {Z : Zs}, (∀ z ∈ Z, z.1.o.apart ops o = true) → ∀ {K' : Act → World → Prop}, (∀ a' w', K a' w' → K' (Gm a' Z) w') →
    o.wpIn (FW rd) 0 P a w K (nQ fun _ _ => False) → o.wpIn (FW rd) 0 P (Gm a Z) w K' (nQ fun _ _ => False)
  | [], _, K', hk, h => Oper.wpIn_mono hk h
  | (y, some b) :: r, hz, K', hk, h => by
    simp only [Gm];refine wJ (hz (y, some b) List.mem_cons_self) hd (K := fun a' w' => K' (a'.put y.o.dst (y.val b)) w') (fun a' w' h => h) ?_;exact Uq hd (fun z hz' => hz z (List.mem_cons_of_mem _ hz')) (fun a' w' h => hk a' w' h) h
  | (_, none) :: r, hz, K', hk, h => Uq (Z := r) hd (fun z hz' => hz z (List.mem_cons_of_mem _ hz')) (fun a' w' h => hk a' w' h) h
theorem YA.put {y : Fl} {a : Act} (h : YA P ops y a) (hd : Ax y.o = true) {o : Oper} (hap : y.o.apart ops o = true) (v : Value) : YA P ops y (a.put o.dst v) := by
  have h3 := (Oper.apart_spec hap).2.2;exact ⟨(wanted_put y.o _ _ _ h3).trans h.want, fun w => by rw [execOp_put y.o (Dz hd) _ _ _ h3]; exact h.run w⟩
end
end Go.Proofs.YtbooaoddioibeaaGreatDoor.Jd

namespace Go.Proofs.YtbooaoddioibeaaGreatDoor.Jd
open Go.Proofs.Tryz
open Go.Proofs
open Go.RowKit (Below)
set_option linter.unusedVariables false
set_option linter.unusedSimpArgs false
section
variable {P : Program} {rd : Option Nat} {ops : Array Oper} {T : Act → World → Prop} {m0 : Nat}
/-- What an operation that is no quiet one leaves. -/
structure AH0 (ops : Array Oper) (m0 i : Nat) (K : List Nat) (F : Fs) (w : World) (W : (World → Prop) → List Nat → Fs → Act → Prop) (a' : Act) (w' : World) : Prop where
  size : w.heap.size ≤ w'.heap.size
  same : ∀ k, k < w.heap.size → k ∉ K → w'.heap[k]? = w.heap[k]?
  ex : ∃ (I' : World → Prop) (K' : List Nat) (F' : Fs), I' w' ∧ Ge I' ∧ (∀ k ∈ K', k ∈ K ∨ w.heap.size ≤ k) ∧ (∀ w, I' w → m0 ≤ w.heap.size ∧ ∀ k ∈ K', k < w.heap.size) ∧ (∀ p ∈ F, Uf ops i p.1 = false → p ∈ F') ∧ (∀ p ∈ F', p.2 w' ∧ Ge p.2) ∧ W I' K' F' a'
def yO (P : Program) (rd : Option Nat) (ops : Array Oper) (m0 : Nat) (T : Act → World → Prop) : List (PK × Nat) → (World → Prop) → List Nat → List Fl → Fs → Act → Prop
  | [], I, _, Y, _, a => Y = [] ∧ ∀ w, I w → T a w
  | (.q, i) :: r, I, K, Y, F, a => ∀ o, ops[i]? = some o → ∃ v S, Dc P ops S o v a ∧ (∀ w, I w → S w) ∧ Ge S ∧ yO P rd ops m0 T r I K Y ((i, S) :: F) (a.put o.dst v)
  | (.a, i) :: r, I, K, Y, F, a => ∀ o, ops[i]? = some o → ∃ obj val, YA P ops ⟨i, o, obj, val⟩ a ∧ yO P rd ops m0 T r I K (⟨i, o, obj, val⟩ :: Y) F a
  | (.l, i) :: r, I, K, Y, F, a => ∀ o, ops[i]? = some o → if Region.wanted o (yielded ops a.tmps) = true then ∀ w, I w → (∀ p ∈ F, p.2 w) → o.wpIn (FW rd) 0 P a w (AH0 ops m0 i K F w (fun I' K' F' a' => yO P rd ops m0 T r I' K' Y F' a')) (nQ fun _ _ => False)
      else yO P rd ops m0 T r I K Y F (a.put o.dst undef)
  | (.f, i) :: r, I, K, Y, F, a => ∃ y ∈ Y, y.i = i ∧ ∀ b, b ∉ K → m0 ≤ b → ∀ w, I w → w.heap[b]? = some y.obj → yO P rd ops m0 T r (fun w => I w ∧ w.heap[b]? = some y.obj) (b :: K) (Y.filter fun z => ! Nat.beq z.i i) F (a.put y.o.dst (y.val b))

theorem rF {a b : Nat} (h : a ≠ b) : Nat.beq a b = false := by
  cases hh : Nat.beq a b with
  | false => rfl
  | true => exact absurd (Nat.eq_of_beq_eq_true hh) h
theorem Kh {i : Nat} : ∀ {ys : List Nat}, ys.Nodup → ys.length ≤ (ys.filter fun j => ! Nat.beq j i).length + 1
  | [], _ => by simp
  | y :: ys, h => by
    rw [List.nodup_cons] at h;by_cases e : y = i
    · subst e;have : ys.filter (fun j => ! Nat.beq j y) = ys := List.filter_eq_self.2 fun z hz => by
        have : z ≠ y := fun e => h.1 (e ▸ hz)
        rw [rF this]; rfl
      simp [this]
    · have := Kh (i := i) h.2;have hb : Nat.beq y i = false := rF e;simp only [List.filter_cons, hb, Bool.not_false, if_true, List.length_cons];omega
theorem Fq {g n : Nat} : ∀ (pl : List (PK × Nat)) (Lp : Array Bool) (ys : List Nat), ys.Nodup → Cg ops g n pl Lp ys = true → ys.length ≤ Hj pl
  | [], Lp, ys, _, h => by
    simp only [Cg, Bool.and_eq_true, List.isEmpty_iff] at h;rw [h.1]; exact Nat.zero_le _
  | (.q, i) :: r, Lp, ys, hn, h => by
    simp only [Cg, Bool.and_eq_true] at h;have := Fq r _ ys hn h.2;simp only [Hj]; omega
  | (.l, i) :: r, Lp, ys, hn, h => by
    simp only [Cg, Bool.and_eq_true] at h;have := Fq r _ ys hn h.2;simp only [Hj]; omega
  | (.a, i) :: r, Lp, ys, hn, h => by
    simp only [Cg, Bool.and_eq_true, Bool.not_eq_true', List.contains_eq_mem, decide_eq_false_iff_not] at h;have := Fq r _ (i :: ys) (List.nodup_cons.2 ⟨h.1.2, hn⟩) h.2;simp only [List.length_cons] at this;simp only [Hj]; omega
  | (.f, i) :: r, Lp, ys, hn, h => by
    simp only [Cg, Bool.and_eq_true] at h;have := Fq r _ _ (hn.filter _) h.2;have := Kh (i := i) hn;simp only [Hj]; omega
/-- Blocks that came early lie as they were made. -/
structure EZ (m0 : Nat) (K : List Nat) (w : World) (Z : Zs) : Prop where
  at_ : ∀ z ∈ Z, ∀ b, z.2 = some b → w.heap[b]? = some z.1.obj ∧ b ∉ K ∧ m0 ≤ b
  nd : (Z.filterMap Prod.snd).Nodup
theorem Vm (b : Nat) (o : Obj) : Ge fun w => w.heap[b]? = some o := fun w o' h => by
  show (w.alloc o').heap[b]? = some o
  rw [Below.heap_alloc w o' b (Array.getElem?_eq_some_iff.1 h).1]; exact h
theorem EZ.alloc {K : List Nat} {w : World} {Z1 Z2 : Zs} {y : Fl} (h : EZ m0 K w (Z1 ++ (y, none) :: Z2)) (hK : ∀ k ∈ K, k < w.heap.size) (hm : m0 ≤ w.heap.size) : EZ m0 K (w.alloc y.obj) (Z1 ++ (y, some w.heap.size) :: Z2) := by
  have hold : ∀ z ∈ Z1 ++ Z2, ∀ b, z.2 = some b → w.heap[b]? = some z.1.obj ∧ b ∉ K ∧ m0 ≤ b := fun z hz => h.at_ z (by
    rcases List.mem_append.1 hz with hz | hz
    · exact List.mem_append_left _ hz
    · exact List.mem_append_right _ (List.mem_cons_of_mem _ hz))
  have hnd := h.nd;simp only [List.filterMap_append, List.filterMap_cons] at hnd;refine ⟨fun z hz b hb => ?_, ?_⟩
  · have hz' : z = (y, some w.heap.size) ∨ z ∈ Z1 ++ Z2 := by
      rcases List.mem_append.1 hz with hz | hz
      · exact .inr (List.mem_append_left _ hz)
      · rcases List.mem_cons.1 hz with rfl | hz
        · exact .inl rfl
        · exact .inr (List.mem_append_right _ hz)
    rcases hz' with rfl | hz'
    · simp only [Option.some.injEq] at hb;subst hb;exact ⟨(by show (w.heap.push y.obj)[w.heap.size]? = some y.obj; simp), fun hk => Nat.lt_irrefl _ (hK _ hk), hm⟩
    · obtain ⟨h1, h2, h3⟩ := hold z hz' b hb;exact ⟨Vm b _ w _ h1, h2, h3⟩
  · simp only [List.filterMap_append, List.filterMap_cons];have hperm : List.Perm (Z1.filterMap Prod.snd ++ w.heap.size :: Z2.filterMap Prod.snd) (w.heap.size :: (Z1.filterMap Prod.snd ++ Z2.filterMap Prod.snd)) := List.perm_middle;refine hperm.nodup_iff.2 (List.nodup_cons.2 ⟨fun hm => ?_, hnd⟩);rw [← List.filterMap_append] at hm;obtain ⟨z, hz, hb⟩ := List.mem_filterMap.1 hm;have := (Array.getElem?_eq_some_iff.1 (hold z hz _ hb).1).1;omega
theorem Gf : ∀ {Z : Zs} {z : Fl × Option Nat}, z ∈ Z → ∃ Z1 Z2, Z = Z1 ++ z :: Z2
  | [], _, h => by cases h
  | x :: r, z, h => by
    rcases List.mem_cons.1 h with rfl | h
    · exact ⟨[], r, rfl⟩
    · obtain ⟨Z1, Z2, rfl⟩ := Gf h;exact ⟨x :: Z1, Z2, rfl⟩
theorem Vn {n : Nat} {Lp : Array Bool} {Z : Zs} (hz : jY ops n Lp Z) (inv : HeadInv .any ops n Lp) {j : Nat} {ys : List Nat} (hj : j ∈ Region.ready .any ops (Eg Lp Z)) (hy : ∀ z ∈ Z, ∀ b, z.2 = some b → z.1.i ∈ ys) (hy' : ∀ k ∈ ys, ∃ z ∈ Z, z.1.i = k) :
    (∃ z ∈ Z, z.1.i = j ∧ z.2 = none) ∨ ((∀ z ∈ Z, z.1.i ≠ j) ∧ j ∈ Region.ready .any ops (Dy Lp ys)) := by
  have hs : ∀ z ∈ Z, z.1.i < Lp.size := fun z h => by rw [inv.size]; exact (Array.getElem?_eq_some_iff.1 (hz.op z h).1).1
  have hun := (Ju hs).1 (mem_ready.1 hj).1;by_cases h0 : ∃ z ∈ Z, z.1.i = j
  · obtain ⟨z, h1, h2⟩ := h0;refine .inl ⟨z, h1, h2, ?_⟩;cases hb : z.2 with
    | none => rfl
    | some b => exact absurd h2 (hun.2 z h1 b hb)
  · have h : ∀ z ∈ Z, z.1.i ≠ j := fun z h1 h2 => h0 ⟨z, h1, h2⟩
    refine .inr ⟨h, Ok (fun k hk => ?_) (aW hun.1 fun hm => ?_) hj⟩
    · have key : Lp.getD k false = true ∨ ∃ z ∈ Z, (∃ b, z.2 = some b) ∧ z.1.i = k := by
        clear hj hun h h0 hy hy'
        induction Z with
        | nil => exact .inl hk
        | cons z r ih =>
          have ihr := fun hk => ih (hz.sub (List.sublist_cons_self _ _)) (fun z hz => hs z (List.mem_cons_of_mem _ hz)) hk
          obtain ⟨y, b⟩ := z;cases b with
          | none =>
            simp only [Eg] at hk;rcases ihr hk with h | ⟨z, h1, h2⟩
            · exact .inl h
            · exact .inr ⟨z, List.mem_cons_of_mem _ h1, h2⟩
          | some b =>
            simp only [Eg] at hk;by_cases e : y.i = k
            · exact .inr ⟨_, List.mem_cons_self, ⟨b, rfl⟩, e⟩
            · rw [getD_set_ne false e] at hk;rcases ihr hk with h | ⟨z, h1, h2⟩
              · exact .inl h
              · exact .inr ⟨z, List.mem_cons_of_mem _ h1, h2⟩
      rcases key with h | ⟨z, h1, ⟨b, hb⟩, h2⟩
      · exact Py (.inl h)
      · exact Py (.inr ⟨h2 ▸ hy z h1 b hb, h2 ▸ hs z h1⟩)
    · obtain ⟨z, h1, h2⟩ := hy' j hm;exact h z h1 h2
theorem Ya {n f : Nat} {Fin : Array Bool → Act → World → Prop} (hnd : ∀ (j : Nat) (o : Oper), ops[j]? = some o → Ax o = true) {Lp : Array Bool} {Z1 Z2 : Zs} {y : Fl} {a : Act} {w : World} {F : Fs} (hz : jY ops n Lp (Z1 ++ (y, none) :: Z2)) (hy : YA P ops y a)
    (hF : ∀ p ∈ F, p.2 w ∧ Ge p.2) (h : sD P rd ops n Fin f F (Eg Lp (Z1 ++ (y, some w.heap.size) :: Z2)) (Gm a (Z1 ++ (y, some w.heap.size) :: Z2)) (w.alloc y.obj)) :
    wpO P rd ops y.i (fun a' w' => ∃ F' : Fs, (∀ p ∈ F, Uf ops y.i p.1 = false → p ∈ F') ∧ (∀ p ∈ F', p.2 w') ∧ sD P rd ops n Fin f F' ((Eg Lp (Z1 ++ (y, none) :: Z2)).setIfInBounds y.i true) a' w') (Gm a (Z1 ++ (y, none) :: Z2)) w := by
  have hm : (y, (none : Option Nat)) ∈ Z1 ++ (y, none) :: Z2 := List.mem_append_right _ List.mem_cons_self;obtain ⟨hop, _⟩ := hz.op _ hm;have hd := hnd _ _ hop;have hne : ∀ z ∈ Z1 ++ Z2, z.1.i ≠ y.i := fun z hz' e => by
    have := hz.nd;rw [List.map_append, List.map_cons] at this;have := (List.perm_middle.nodup_iff.1 this)
    rw [List.nodup_cons, ← List.map_append] at this;exact this.1 (List.mem_map.2 ⟨z, hz', e⟩)
  have hsub : List.Sublist (Z1 ++ Z2) (Z1 ++ (y, none) :: Z2) := (List.Sublist.refl Z1).append (List.sublist_cons_self _ _);have hap : ∀ z ∈ Z1 ++ Z2, z.1.o.apart ops y.o = true := fun z hz' => hz.apart (hsub.subset hz') hop (hz.rdy _ hm) (Ne.symm (hne z hz'))
  obtain ⟨e1, e2⟩ := Hq hd a hap;rw [Un, Um];rw [Pu, Pv] at h
  · unfold wpO;simp only [hop];rw [if_pos (e2.trans hy.want)];refine Cs hd (by rw [e1]; exact hy.run w) ⟨F, fun p hp _ => hp, fun p hp => (hF p hp).2 w _ (hF p hp).1, h⟩
  · intro z hz' d hd';exact (Oper.apart_spec (hap z (List.mem_append_left _ hz'))).2.1 d hd'
end
end Go.Proofs.YtbooaoddioibeaaGreatDoor.Jd

namespace Go.Proofs.YtbooaoddioibeaaGreatDoor.Jd
open Go.Proofs.Tryz
open Go.Proofs
open Go.RowKit (Below)
set_option linter.unusedVariables false
set_option linter.unusedSimpArgs false
section
variable {P : Program} {rd : Option Nat} {ops : Array Oper} {T : Act → World → Prop} {m0 : Nat}
theorem Yb {Z1 Z2 : Zs} {z : Fl × Option Nat} {n : Nat} {Lp : Array Bool} (hz : jY ops n Lp (Z1 ++ z :: Z2)) : ∀ x ∈ Z1 ++ Z2, x.1.i ≠ z.1.i := fun x hx e => by
  have := hz.nd;rw [List.map_append, List.map_cons] at this;have := (List.perm_middle.nodup_iff.1 this)
  rw [List.nodup_cons, ← List.map_append] at this;exact this.1 (List.mem_map.2 ⟨x, hx, e⟩)
theorem dQ {Z1 Z2 : Zs} {z : Fl × Option Nat} {i : Nat} (he : z.1.i = i) (h : ∀ x ∈ Z1 ++ Z2, x.1.i ≠ z.1.i) :
    ((Z1 ++ z :: Z2).map fun z => z.1.i).filter (fun j => ! Nat.beq j i) = (Z1 ++ Z2).map (fun z => z.1.i) ∧ ((Z1 ++ z :: Z2).map Prod.fst).filter (fun y => ! Nat.beq y.i i) = (Z1 ++ Z2).map Prod.fst := by
  subst he;have hk : ∀ x ∈ Z1 ++ Z2, Nat.beq x.1.i z.1.i = false := fun x hx => rF (h x hx)
  have h1 : ∀ x ∈ Z1, Nat.beq x.1.i z.1.i = false := fun x hx => hk x (List.mem_append_left _ hx)
  have h2 : ∀ x ∈ Z2, Nat.beq x.1.i z.1.i = false := fun x hx => hk x (List.mem_append_right _ hx)
  constructor
  · simp only [List.map_append, List.map_cons, List.filter_append, List.filter_cons, Nat.beq_refl, Bool.not_true, Bool.false_eq_true, if_false];rw [List.filter_eq_self.2, List.filter_eq_self.2]
    · intro x hx; obtain ⟨y, hy, rfl⟩ := List.mem_map.1 hx; rw [h2 y hy]; rfl
    · intro x hx; obtain ⟨y, hy, rfl⟩ := List.mem_map.1 hx; rw [h1 y hy]; rfl
  · simp only [List.map_append, List.map_cons, List.filter_append, List.filter_cons, Nat.beq_refl, Bool.not_true, Bool.false_eq_true, if_false];rw [List.filter_eq_self.2, List.filter_eq_self.2]
    · intro x hx; obtain ⟨y, hy, rfl⟩ := List.mem_map.1 hx; rw [h2 y hy]; rfl
    · intro x hx; obtain ⟨y, hy, rfl⟩ := List.mem_map.1 hx; rw [h1 y hy]; rfl
theorem Gy {n g : Nat} (hnd : ∀ (j : Nat) (o : Oper), ops[j]? = some o → Ax o = true)
    (htl : ∀ listed, HeadInv .any ops n listed → ∀ i, i < n → listed.getD i true = false → ∀ j ∈ Region.ready .any ops listed, j < n) (hn : n ≤ ops.size) :
    ∀ (pl : List (PK × Nat)) (I : World → Prop) (K : List Nat) (F : Fs) (a : Act) (Lp : Array Bool) (Z : Zs), HeadInv .any ops n Lp → Cg ops g n pl Lp (Z.map fun z => z.1.i) = true → jY ops n Lp Z → (∀ z ∈ Z, YA P ops z.1 a) →
      Ge I → (∀ w, I w → m0 ≤ w.heap.size ∧ ∀ k ∈ K, k < w.heap.size) → yO P rd ops m0 T pl I K (Z.map Prod.fst) F a →
      ∀ (f : Nat) (w : World), Fv Z + f = Hj pl → EZ m0 K w Z → I w → (∀ p ∈ F, p.2 w ∧ Ge p.2) → sD P rd ops n (fun listed a w => Region.seqB .any ops g n listed = true ∧ T a w) f F (Eg Lp Z) (Gm a Z) w
  | [], I, K, F, a, Lp, Z, inv, hB, hz, hy, hI, hK, hW, f, w, hf, he, hw, hF => by
    obtain ⟨h1, h2⟩ := hW;have : Z = [] := by simpa using h1
    subst this;simp only [Hj, Fv] at hf;have : f = 0 := by omega
    subst this;simp only [Cg, Bool.and_eq_true] at hB;exact ⟨hB.2, h2 w hw⟩
  | (.a, i) :: r, I, K, F, a, Lp, Z, inv, hB, hz, hy, hI, hK, hW, f, w, hf, he, hw, hF => by
    simp only [Cg, Bool.and_eq_true, Bool.not_eq_true', List.contains_eq_mem, decide_eq_false_iff_not, decide_eq_true_eq, Nat.blt_eq] at hB;obtain ⟨⟨⟨⟨hin, hr⟩, _, hfr⟩, hni⟩, hB⟩ := hB;have hi : ops[i]? = some ops[i] := Array.getElem?_eq_getElem z6;obtain ⟨obj, val, hA, hW⟩ := hW _ hi;have hz' : jY ops n Lp ((⟨i, ops[i], obj, val⟩, none) :: Z) := by
      refine ⟨List.nodup_cons.2 ⟨hni, hz.nd⟩, fun z hzm => ?_, fun z hzm => ?_, fun z hzm => ?_⟩ <;> rcases List.mem_cons.1 hzm with rfl | hzm
      · exact ⟨hi, hin⟩
      · exact hz.op z hzm
      · exact hr
      · exact hz.rdy z hzm
      · exact hfr
      · exact hz.free z hzm
    refine Gy hnd htl hn r I K F a Lp ((⟨i, ops[i], obj, val⟩, none) :: Z) inv hB hz' (fun z hzm => ?_) hI hK hW f w hf ⟨fun z hzm b hb => ?_, he.nd⟩ hw hF
    · rcases List.mem_cons.1 hzm with rfl | hzm
      · exact hA
      · exact hy z hzm
    · rcases List.mem_cons.1 hzm with rfl | hzm
      · cases hb
      · exact he.at_ z hzm b hb
  | (.q, i) :: r, I, K, F, a, Lp, Z, inv, hB, hz, hy, hI, hK, hW, f, w, hf, he, hw, hF => by
    simp only [Cg, Bool.and_eq_true, Bool.not_eq_true', List.contains_eq_mem, decide_eq_false_iff_not, decide_eq_true_eq, Nat.blt_eq] at hB;obtain ⟨⟨⟨⟨hin, hr⟩, _, hfr⟩, hni⟩, hB⟩ := hB;have hi : ops[i]? = some ops[i] := Array.getElem?_eq_getElem z6;obtain ⟨v, S, hY, hS, hSt, hW⟩ := hW _ hi;have hne : ∀ z ∈ Z, z.1.i ≠ i := fun z hzm e => hni (List.mem_map.2 ⟨z, hzm, e⟩)
    have hap : ∀ z ∈ Z, z.1.o.apart ops ops[i] = true := fun z hzm => hz.apart hzm hi hr (Ne.symm (hne z hzm))
    have hd := hnd _ _ hi;have hlen := Fq r _ _ hz.nd hB;have := Kw Z;rw [List.length_map] at hlen;simp only [Hj] at hf;obtain ⟨f', rfl⟩ : ∃ f', f = f' + 1 := ⟨f - 1, by omega⟩
    have d8 := hz.next hne;have n8 : ∀ p ∈ (i, S) :: F, p.2 w ∧ Ge p.2 := fun p hp => by
      rcases List.mem_cons.1 hp with rfl | hp
      · exact ⟨hS w hw, hSt⟩
      · exact hF p hp
    have H := Gy hnd htl hn r I K ((i, S) :: F) (a.put ops[i].dst v) (Lp.setIfInBounds i true) Z (inv.set hr hin) hB d8 (fun z hzm => (hy z hzm).put (hnd _ _ (hz.op z hzm).1) (hap z hzm) v) hI hK hW f' w z6 he hw n8;rw [Kx, Oi v a fun z hzm d hd' => (Oper.apart_spec (hap z hzm)).2.1 d hd'] at H;obtain ⟨e1, e2⟩ := Hq hd a hap;have hun0 : ∀ k, (Eg Lp Z).getD k true = false → Lp.getD k true = false := fun k hk => ((Ju fun z h => by rw [inv.size]; exact (Array.getElem?_eq_some_iff.1 (hz.op z h).1).1).1 hk).1
    refine F1 (fun p hp => List.mem_cons_of_mem _ hp) (qZ hi hnd htl hin (fun listed' a' w' hF => seqB_ready hF.1) f' ((i, S) :: F) (Eg Lp Z) (Gm a Z) w (Me inv hz)
      (Region.free_spec hi (aX hun0 hfr)) (Ok (fun k hk => Px hk Z) ?_ hr) (hY.of_same e1 e2) List.mem_cons_self (fun p hp => (n8 p hp).1) H)
    exact (Ju fun z h => by rw [inv.size]; exact (Array.getElem?_eq_some_iff.1 (hz.op z h).1).1).2 ⟨(mem_ready.1 hr).1, fun z hzm _ _ => hne z hzm⟩
  | (.l, i) :: r, I, K, F, a, Lp, Z, inv, hB, hz, hy, hI, hK, hW, f, w, hf, he, hw, hF => by
    simp only [Cg, Bool.and_eq_true, Bool.not_eq_true', List.contains_eq_mem, decide_eq_false_iff_not, decide_eq_true_eq, Nat.blt_eq] at hB;obtain ⟨⟨⟨⟨hin, hr⟩, hni⟩, hone⟩, hB⟩ := hB;have hi : ops[i]? = some ops[i] := Array.getElem?_eq_getElem z6;have hW := hW _ hi;have hd := hnd _ _ hi;have key : ∀ (m : Nat) (Z' : Zs) (f : Nat) (w : World), Vt Z' = m → Z'.map Prod.fst = Z.map Prod.fst → Fv Z' + f = Hj ((PK.l, i) :: r) → EZ m0 K w Z' → I w → (∀ p ∈ F, p.2 w ∧ Ge p.2) →
        sD P rd ops n (fun listed a w => Region.seqB .any ops g n listed = true ∧ T a w) f F (Eg Lp Z') (Gm a Z') w := by
      intro m
      induction m with
      | zero => ?_
      | succ m ihm => ?_
      all_goals
        intro Z' f w hm hZ hf he hw hF;have hidx : Z'.map (fun z => z.1.i) = Z.map (fun z => z.1.i) := by
          have := congrArg (List.map Fl.i) hZ;rw [List.map_map, List.map_map] at this; exact this
        have hmem : ∀ z ∈ Z', ∃ z0 ∈ Z, z0.1 = z.1 := fun z hzm => by
          have : z.1 ∈ Z.map Prod.fst := hZ ▸ List.mem_map_of_mem hzm;obtain ⟨z0, h1, h2⟩ := List.mem_map.1 this;exact ⟨z0, h1, h2⟩
        have hz' : jY ops n Lp Z' := ⟨hidx ▸ hz.nd, fun z hzm => by obtain ⟨z0, h1, h2⟩ := hmem z hzm; exact h2 ▸ hz.op z0 h1, fun z hzm => by obtain ⟨z0, h1, h2⟩ := hmem z hzm; exact h2 ▸ hz.rdy z0 h1, fun z hzm => by obtain ⟨z0, h1, h2⟩ := hmem z hzm; exact h2 ▸ hz.free z0 h1⟩
        have hy' : ∀ z ∈ Z', YA P ops z.1 a := fun z hzm => by obtain ⟨z0, h1, h2⟩ := hmem z hzm; exact h2 ▸ hy z0 h1
        have hne : ∀ z ∈ Z', z.1.i ≠ i := fun z hzm e => hni (hidx ▸ List.mem_map.2 ⟨z, hzm, e⟩)
        have hap : ∀ z ∈ Z', z.1.o.apart ops ops[i] = true := fun z hzm => hz'.apart hzm hi hr (Ne.symm (hne z hzm))
        have hlen := Fq r _ _ hz.nd hB;rw [← hidx, List.length_map] at hlen;have := Kw Z';have hf0 := hf;simp only [Hj] at hf;obtain ⟨f', rfl⟩ : ∃ f', f = f' + 1 := ⟨f - 1, by omega⟩
        have hri : i ∈ Region.ready .any ops (Eg Lp Z') := Ok (fun k hk => Px hk Z') ((Ju fun z h => by rw [inv.size]; exact (Array.getElem?_eq_some_iff.1 (hz'.op z h).1).1).2 ⟨(mem_ready.1 hr).1, fun z hzm _ _ => hne z hzm⟩) hr;have hself : wpO P rd ops i (fun a' w' => ∃ F' : Fs, (∀ p ∈ F, Uf ops i p.1 = false → p ∈ F') ∧ (∀ p ∈ F', p.2 w') ∧ sD P rd ops n (fun listed a w => Region.seqB .any ops g n listed = true ∧ T a w) f' F' ((Eg Lp Z').setIfInBounds i true) a' w') (Gm a Z') w := by
          obtain ⟨e1, e2⟩ := Hq hd a hap;have d8 := hz'.next hne;unfold wpO;simp only [hi];split
          · rename_i hwant
            rw [e2] at hwant;rw [if_pos hwant] at hW;have h1 := hW w hw (fun p hp => (hF p hp).1);have h2 := rE (R := fun a => ∀ z ∈ Z', YA P ops z.1 a) hd (fun a v h z hzm => (h z hzm).put (hnd _ _ (hz'.op z hzm).1) (hap z hzm) v) hy' (fun a d h z hzm => ⟨(h z hzm).want, (h z hzm).run⟩) h1;refine Uq hd hap (fun a' w' h3 => ?_) h2;obtain ⟨hy2, hsz, hsm, I', K', F', g1, g2, g3, g4, g5, g6, g7⟩ := h3;refine ⟨F', g5, fun p hp => (g6 p hp).1, ?_⟩;rw [← Kx];have he2 : EZ m0 K' w' Z' := ⟨fun z hzm b hb => by
              obtain ⟨k1, k2, k3⟩ := he.at_ z hzm b hb;have hlt := (Array.getElem?_eq_some_iff.1 k1).1;exact ⟨(hsm b hlt k2).trans k1, fun hk => (g3 b hk).elim k2 (fun h => by omega), k3⟩, he.nd⟩
            exact Gy hnd htl hn r I' K' F' a' (Lp.setIfInBounds i true) Z' (inv.set hr hin) (hidx ▸ hB) d8 hy2 g2 g4 (hZ ▸ g7) f' w' z6 he2 g1 g6
          · rename_i hwant
            rw [e2] at hwant;rw [if_neg hwant] at hW;refine ⟨F, fun p hp _ => hp, fun p hp => (hF p hp).1, ?_⟩;rw [← Kx, ← Oi undef a fun z hzm d hd' => (Oper.apart_spec (hap z hzm)).2.1 d hd'];exact Gy hnd htl hn r I K F (a.put ops[i].dst undef) (Lp.setIfInBounds i true) Z' (inv.set hr hin) (hidx ▸ hB) d8 (fun z hzm => (hy' z hzm).put (hnd _ _ (hz'.op z hzm).1) (hap z hzm) undef) hI hK (hZ ▸ hW) f' w z6 he hw hF
        refine ⟨fun h => (by rw [h] at hri; cases hri), fun j hj => ?_⟩;rcases Vn hz' inv hj (ys := Z.map fun z => z.1.i) (fun z hzm _ _ => hidx ▸ List.mem_map_of_mem (f := fun z : Fl × Option Nat => z.1.i) hzm) (fun k hk => by
          rw [← hidx] at hk;obtain ⟨z, h1, h2⟩ := List.mem_map.1 hk;exact ⟨z, h1, h2⟩) with ⟨z, hzm, rfl, hnone⟩ | ⟨_, hj2⟩
      · exfalso;obtain ⟨Z1, Z2, rfl⟩ := Gf hzm;obtain ⟨y, b⟩ := z;simp only at hnone;subst hnone;rw [Ir] at hm;omega
      · rw [hone] at hj2;have : j = i := by simpa using hj2
        subst this;exact ⟨hin, hself⟩
      · refine ⟨(hz'.op z hzm).2, ?_⟩;have hyz := hy' z hzm;obtain ⟨Z1, Z2, rfl⟩ := Gf hzm;obtain ⟨y, b⟩ := z;simp only at hnone;subst hnone;refine Ya hnd hz' hyz hF (ihm (Z1 ++ (y, some w.heap.size) :: Z2) f' (w.alloc y.obj) ?_ ?_ ?_ (he.alloc (hK w hw).2 (hK w hw).1) (hI w _ hw) (fun p hp => ⟨(hF p hp).2 w _ (hF p hp).1, (hF p hp).2⟩))
        · rw [Ir] at hm;rw [Pw]; omega
        · rw [← hZ]; simp
        · rw [Ji] at hf0;rw [Jh, ← hf0]; omega
      · rw [hone] at hj2;have : j = i := by simpa using hj2
        subst this;exact ⟨hin, hself⟩
    exact key _ Z f w rfl rfl hf he hw hF
  | (.f, i) :: r, I, K, F, a, Lp, Z, inv, hB, hz, hy, hI, hK, hW, f, w, hf, he, hw, hF => by
    simp only [Cg, Bool.and_eq_true, Bool.not_eq_true', List.contains_eq_mem, decide_eq_false_iff_not, decide_eq_true_eq, Nat.blt_eq] at hB;obtain ⟨⟨hin, hone⟩, hB⟩ := hB;obtain ⟨y, hyY, hyi, hW⟩ := hW;obtain ⟨z0, g0, rfl⟩ := List.mem_map.1 hyY;subst hyi;have c9 := Fq r _ _ (hz.nd.filter _) hB;have hflen := Kh (i := z0.1.i) hz.nd;rw [List.length_map] at hflen;have key : ∀ (m : Nat) (Z' : Zs) (f : Nat) (w : World), Vt Z' = m → Z'.map Prod.fst = Z.map Prod.fst → Fv Z' + f = Hj ((PK.f, z0.1.i) :: r) → EZ m0 K w Z' → I w → (∀ p ∈ F, p.2 w ∧ Ge p.2) →
        sD P rd ops n (fun listed a w => Region.seqB .any ops g n listed = true ∧ T a w) f F (Eg Lp Z') (Gm a Z') w := by
      intro m
      induction m with
      | zero => ?_
      | succ m ihm => ?_
      all_goals
        intro Z' f w hm hZ hf he hw hF;have hidx : Z'.map (fun z => z.1.i) = Z.map (fun z => z.1.i) := by
          have := congrArg (List.map Fl.i) hZ;rw [List.map_map, List.map_map] at this; exact this
        have hmem : ∀ z ∈ Z', ∃ z0 ∈ Z, z0.1 = z.1 := fun z hzm => by
          have : z.1 ∈ Z.map Prod.fst := hZ ▸ List.mem_map_of_mem hzm;obtain ⟨z0, h1, h2⟩ := List.mem_map.1 this;exact ⟨z0, h1, h2⟩
        have hz' : jY ops n Lp Z' := ⟨hidx ▸ hz.nd, fun z hzm => by obtain ⟨z0, h1, h2⟩ := hmem z hzm; exact h2 ▸ hz.op z0 h1, fun z hzm => by obtain ⟨z0, h1, h2⟩ := hmem z hzm; exact h2 ▸ hz.rdy z0 h1, fun z hzm => by obtain ⟨z0, h1, h2⟩ := hmem z hzm; exact h2 ▸ hz.free z0 h1⟩
        have hy' : ∀ z ∈ Z', YA P ops z.1 a := fun z hzm => by obtain ⟨z0, h1, h2⟩ := hmem z hzm; exact h2 ▸ hy z0 h1
        obtain ⟨z1, c4, hz1e⟩ : ∃ z1 ∈ Z', z1.1 = z0.1 := by
          have : z0.1 ∈ Z'.map Prod.fst := hZ ▸ List.mem_map_of_mem g0;obtain ⟨z1, h1, h2⟩ := List.mem_map.1 this;exact ⟨z1, h1, h2⟩
        have hlen : Z'.length = Z.length := by have := congrArg List.length hZ; simpa using this
        have hel := Kw Z';have hf0 := hf;simp only [Hj] at hf;cases hb : z1.2 with
        | some b =>
          -- it came Fv: its place in the plan
          obtain ⟨k1, k2, k3⟩ := he.at_ z1 c4 b hb;have hop := hz'.op z1 c4;have hrd := hz'.rdy z1 c4;obtain ⟨Z1, Z2, rfl⟩ := Gf c4;have hnd2 := Yb hz';obtain ⟨y1, b1⟩ := z1;simp only at hz1e hb;subst hb;subst hz1e;obtain ⟨q1, q2⟩ := dQ (i := z0.1.i) (z := (z0.1, some b)) rfl hnd2;have hsub : List.Sublist (Z1 ++ Z2) (Z1 ++ (z0.1, some b) :: Z2) := (List.Sublist.refl Z1).append (List.sublist_cons_self _ _);have hap : ∀ z ∈ Z1 ++ Z2, z.1.o.apart ops z0.1.o = true := fun z hzm => hz'.apart (hsub.subset hzm) hop.1 hrd (Ne.symm (hnd2 z hzm))
          have hWb := hW b k2 k3 w hw k1;rw [hidx] at q1;rw [hZ] at q2;rw [q1] at hB;rw [q2] at hWb;rw [Pu, Pv a z0.1 b Z2 Z1 fun z hzm d hd' => (Oper.apart_spec (hap z (List.mem_append_left _ hzm))).2.1 d hd', ← Kx, ← Oi _ a fun z hzm d hd' => (Oper.apart_spec (hap z hzm)).2.1 d hd'];rw [Jh] at hf;have hend := he.nd;simp only [List.filterMap_append, List.filterMap_cons] at hend;have hend := (List.perm_middle.nodup_iff.1 hend)
          rw [List.nodup_cons, ← List.filterMap_append] at hend;refine Gy hnd htl hn r _ (b :: K) F (a.put z0.1.o.dst (z0.1.val b)) (Lp.setIfInBounds z0.1.i true) (Z1 ++ Z2) (inv.set hrd hop.2) hB ((hz'.sub hsub).next hnd2) (fun z hzm => (hy' z (hsub.subset hzm)).put (hnd _ _ (hz'.op z (hsub.subset hzm)).1) (hap z hzm) _) (fun w o h => ⟨hI w o h.1, Vm b _ w o h.2⟩) (fun w h => ⟨(hK w h.1).1, fun k hk => ?_⟩) hWb f w z6 ⟨fun z hzm b' hb' => ?_, hend.2⟩ ⟨hw, k1⟩ hF
          · rcases List.mem_cons.1 hk with rfl | hk
            · exact (Array.getElem?_eq_some_iff.1 h.2).1
            · exact (hK w h.1).2 k hk
          · obtain ⟨j1, j2, j3⟩ := he.at_ z (hsub.subset hzm) b' hb';refine ⟨j1, fun hk => ?_, j3⟩;rcases List.mem_cons.1 hk with rfl | hk
            · exact hend.1 (List.mem_filterMap.2 ⟨z, hzm, hb'⟩)
            · exact j2 hk
        | none => ?_
        -- all that may come next are new blocks
        have hel2 : Fv Z' < Z'.length := by
          obtain ⟨Z1, Z2, rfl⟩ := Gf c4;obtain ⟨y1, b1⟩ := z1;simp only at hb;subst hb;rw [Ji];have := Kw (Z1 ++ Z2);simp only [List.length_append, List.length_cons] at *;omega
        obtain ⟨f', rfl⟩ : ∃ f', f = f' + 1 := ⟨f - 1, by omega⟩
        have hs : ∀ z ∈ Z', z.1.i < Lp.size := fun z h => by rw [inv.size]; exact (Array.getElem?_eq_some_iff.1 (hz'.op z h).1).1
        have hri : z0.1.i ∈ Region.ready .any ops (Eg Lp Z') := by
          refine Ok (fun k hk => Px hk Z') ((Ju hs).2 ⟨(mem_ready.1 (hz.rdy z0 g0)).1, fun z hzm b' hb' e => ?_⟩) (hz.rdy z0 g0);obtain ⟨Z1, Z2, rfl⟩ := Gf c4;have hnd2 := Yb hz';rw [← hz1e] at e;rcases List.mem_append.1 hzm with h | h
          · exact hnd2 z (List.mem_append_left _ h) e
          · rcases List.mem_cons.1 h with rfl | h
            · rw [hb] at hb'; cases hb'
            · exact hnd2 z (List.mem_append_right _ h) e
        refine ⟨fun h => (by rw [h] at hri; cases hri), fun j hj => ?_⟩;rcases Vn hz' inv hj (ys := (Z.map fun z => z.1.i).filter fun j => ! Nat.beq j z0.1.i) (fun z hzm b' hb' => by
            rw [← hidx];refine List.mem_filter.2 ⟨List.mem_map_of_mem (f := fun z : Fl × Option Nat => z.1.i) hzm, ?_⟩;rw [rF]; rfl;intro e;obtain ⟨Z1, Z2, rfl⟩ := Gf c4;have hnd2 := Yb hz';rw [← hz1e] at e;rcases List.mem_append.1 hzm with h | h
            · exact hnd2 z (List.mem_append_left _ h) e
            · rcases List.mem_cons.1 h with rfl | h
              · rw [hb] at hb'; cases hb'
              · exact hnd2 z (List.mem_append_right _ h) e) (fun k hk => by
            have hk := (List.mem_filter.1 hk).1;rw [← hidx] at hk;obtain ⟨z, h1, h2⟩ := List.mem_map.1 hk;exact ⟨z, h1, h2⟩) with ⟨z, hzm, rfl, hnone⟩ | ⟨hno, hj2⟩
      · exfalso;obtain ⟨Z1, Z2, rfl⟩ := Gf hzm;obtain ⟨y, b⟩ := z;simp only at hnone;subst hnone;rw [Ir] at hm;omega
      · rw [hone] at hj2;have : j = z0.1.i := by simpa using hj2
        exact absurd (by rw [hz1e, this]) (hno z1 c4)
      · refine ⟨(hz'.op z hzm).2, ?_⟩;have hyz := hy' z hzm;obtain ⟨Z1, Z2, rfl⟩ := Gf hzm;obtain ⟨y, b⟩ := z;simp only at hnone;subst hnone;refine Ya hnd hz' hyz hF (ihm (Z1 ++ (y, some w.heap.size) :: Z2) f' (w.alloc y.obj) ?_ ?_ ?_ (he.alloc (hK w hw).2 (hK w hw).1) (hI w _ hw) (fun p hp => ⟨(hF p hp).2 w _ (hF p hp).1, (hF p hp).2⟩))
        · rw [Ir] at hm;rw [Pw]; omega
        · rw [← hZ]; simp
        · rw [Ji] at hf0;rw [Jh, ← hf0]; omega
      · rw [hone] at hj2;have : j = z0.1.i := by simpa using hj2
        exact absurd (by rw [hz1e, this]) (hno z1 c4)
    exact key _ Z f w rfl rfl hf he hw hF
end
end Go.Proofs.YtbooaoddioibeaaGreatDoor.Jd

namespace Go.Proofs.YtbooaoddioibeaaGreatDoor.Jd
open Go.Proofs.Tryz
open Go.Proofs
open Go.RowKit (Below)
set_option linter.unusedVariables false
set_option linter.unusedSimpArgs false
section
variable {P : Program} {rd : Option Nat} {m0 : Nat}
theorem Sy {id : Nat} {l : List Oper} {Q : Exit → Act → World → Prop} {a : Act} {w : World} (hm : P.follows .mixedOrders = true) (n : Nat) (pl : List (PK × Nat))
    (hB : Po l n pl = true) (I : World → Prop) (K : List Nat) (hI : Ge I) (hK : ∀ w, I w → m0 ≤ w.heap.size ∧ ∀ k ∈ K, k < w.heap.size) (hS : I { w with drawn := w.drawn + 1 })
    (h : yO P rd l.toArray m0 (fun a' w' => Pk P rd l.toArray (Q .normal) (l.drop n) a' w') pl I K [] [] a) :
    (Code.region id l.toArray true).wpIn (FW rd) 0 P Q a w := by
  simp only [Po, Bool.and_eq_true, Nat.ble_eq, Nat.beq_eq, beq_iff_eq] at hB;obtain ⟨⟨⟨⟨hn, hlen⟩, hnd⟩, htl⟩, hpl⟩ := hB;have hnd' : ∀ j o, l.toArray[j]? = some o → Ax o = true := fun j o ho => by
    have : o ∈ l := by simpa using Array.mem_of_getElem? ho
    exact List.all_eq_true.1 hnd o this
  have inv0 : HeadInv .any l.toArray n (Array.replicate l.length false) :=
    ⟨by simp, fun j oj _ hl => (by rw [getD_replicate_false] at hl; cases hl), fun t _ ht => getD_in (by simpa using ht) (getD_replicate_false _ _)⟩
  have htail : ∀ listed, HeadInv .any l.toArray n listed → ∀ i, i < n → listed.getD i true = false → ∀ j ∈ Region.ready .any l.toArray listed, j < n := by
    intro listed inv i hin hun j hj;rw [Bool.or_eq_true] at htl;rcases htl with htl | htl
    · have : n = l.length := by simpa using htl
      obtain ⟨_, oj, hoj, _⟩ := mem_ready.1 hj;have := (Array.getElem?_eq_some_iff.1 hoj).1;simp at this;omega
    · simp only [Bool.and_eq_true] at htl;rcases Nat.lt_or_ge j n with h' | h'
      · exact h'
      · rcases Nat.lt_or_ge n l.length with h2 | h2
        · exact absurd hj (tail_waits htl.1 htl.2 (by simpa using h2) inv _ i rfl hin hun j h')
        · obtain ⟨_, oj, hoj, _⟩ := mem_ready.1 hj;have := (Array.getElem?_eq_some_iff.1 hoj).1;simp at this;omega
  have H := Gy (P := P) (rd := rd) (g := l.length - n) (m0 := m0) hnd' htail (by simpa using hn) pl I K [] a (Array.replicate l.length false) [] inv0 hpl ⟨List.nodup_nil, fun z h => (by cases h), fun z h => (by cases h), fun z h => (by cases h)⟩ (fun z h => by cases h) hI hK h
    n _ (by simp only [Fv]; omega) ⟨fun z h => (by cases h), List.nodup_nil⟩ hS (fun p h => by cases h)
  refine bR (wpIn_region_any hm ?_);have := Oh (Q := nQ (Q .normal)) (g := l.length - n) (fun listed a' w' hF => by
    have h1 := Iu (P := P) (rd := rd) (ops := l.toArray) (l.drop n) n listed a' w' (fun j => by simp [List.getElem?_drop]) (by rw [List.length_drop]; exact hF.1) hF.2
    rwa [List.length_drop] at h1) _ _ _ _ _ H
  rw [show n + (l.length - n) = l.length by omega] at this;simpa [Eg, Gm] using this
end
end Go.Proofs.YtbooaoddioibeaaGreatDoor.Jd

namespace Go.Proofs.YtbooaoddioibeaaGreatDoor.Jd
open Go.Proofs.Tryz
open Go.Proofs
open Go.RowKit (Below)
set_option linter.unusedVariables false
set_option linter.unusedSimpArgs false
def fG (s s' : St) (r : RE) : Prop := ∀ o, s.blk r.1 = some o → if r.2.2 = 0 then s'.blk r.1 = some o else ∀ l t f, o = .cells l t f → ∃ l', s'.blk r.1 = some (.cells l' t f) ∧ ∀ j v, r.2.1 ≤ j → j < r.2.2 → Lw l j = some v → Lw l' j = some v
theorem fG.refl (s : St) (r : RE) : fG s s r := fun o ho => by
  split
  · exact ho
  · intro l t f e; subst e; exact ⟨l, ho, fun j v _ _ h => h⟩
theorem fG.same {s s' : St} {r : RE} (h : ∀ o, s.blk r.1 = some o → s'.blk r.1 = some o) : fG s s' r := fun o ho => by
  split
  · exact h o ho
  · intro l t f e; subst e; exact ⟨l, h _ ho, fun j v _ _ h => h⟩
theorem fG.trans {s s' s2 : St} {r : RE} (h : fG s s' r) (k : fG s' s2 r) : fG s s2 r := fun o ho => by
  have h1 := h o ho;split at h1
  · rename_i h0
    rw [if_pos h0];have := k o h1
    rwa [if_pos h0] at this
  · rename_i h0
    rw [if_neg h0];intro l t f e;obtain ⟨l', g1, g2⟩ := h1 l t f e;have := k _ g1;rw [if_neg h0] at this;obtain ⟨l2, g3, g4⟩ := this l' t f rfl;exact ⟨l2, g3, fun j v a b c => g4 j v a b (g2 j v a b c)⟩
def Fr (s s' : St) : Prop := s.n ≤ s'.n ∧ s'.lo = s.lo ∧ (∀ x ∈ s.wr, x ∈ s'.wr) ∧ ∀ r : RE, r.1 < s.lo → (∀ x ∈ s'.wr, Ja r x = true) → fG s s' r
theorem Fr.refl (s : St) : Fr s s := ⟨Nat.le_refl _, rfl, fun _ h => h, fun r _ _ => fG.refl s r⟩
theorem Fr.trans {s s' s2 : St} (h : Fr s s') (k : Fr s' s2) : Fr s s2 :=
  ⟨Nat.le_trans h.1 k.1, k.2.1.trans h.2.1, fun x hx => k.2.2.1 x (h.2.2.1 x hx), fun r hr hx => (h.2.2.2 r hr fun x hm => hx x (k.2.2.1 x hm)).trans (k.2.2.2 r (h.2.1 ▸ hr) hx)⟩
theorem Fr.le {s s' : St} (h : Fr s s') (hlo : s.lo ≤ s.n) : s'.lo ≤ s'.n := by have := h.1; have := h.2.1; omega
theorem Pz {s : St} {i j : Nat} {o : O} {wr : List RE} {n : Nat} (h : j ≠ i) : St.blk { s with n := n, H := s.H.set (i, o) (i + 1), wr := wr } j = s.blk j := by
  simp only [St.blk];rw [T.get_set _ _ _ _ z6, if_neg z6]
theorem Fr.new {s s' : St} {o : O} (hlo : s.lo ≤ s.n) (h : s.new o = some s') : Fr s s' := by
  have h : some { s with n := s.n + 1, H := s.H.set (s.n, o) (s.n + 1) } = some s' := h;simp only [Option.some.injEq] at h;subst h;exact ⟨Nat.le_succ _, rfl, fun _ h => h, fun r hr _ => fG.same fun o' ho => by
    have : r.1 ≠ s.n := by omega
    rw [show ({ s with n := s.n + 1, H := s.H.set (s.n, o) (s.n + 1) } : St).blk r.1 = s.blk r.1 from Pz (wr := s.wr) this]; exact ho⟩
theorem Gz {lo : Nat} {r : RE} {wr : List RE} : (∀ x ∈ wr, x ∈ Cm lo r wr) ∧ (r.1 < lo → r ∈ Cm lo r wr) := by
  unfold Cm;rw [Dg];split
  · exact ⟨fun x hx => List.mem_cons_of_mem _ hx, fun _ => List.mem_cons_self⟩
  · rename_i h
    exact ⟨fun x hx => hx, fun h' => absurd (by simpa [Nat.blt_eq] using h') h⟩
theorem aY {r w : RE} (h : Ja r w = true) (he : r.1 = w.1) : r.2.2 ≠ 0 ∧ w.2.2 ≠ 0 ∧ (r.2.2 ≤ w.2.1 ∨ w.2.2 ≤ r.2.1) := by
  unfold Ja at h;rw [Dg, if_pos (by rw [he]; simp)] at h;simp only [Dg, Nat.beq_eq, Nat.ble_eq] at h;split at h
  · cases h
  · rename_i h1
    split at h
    · cases h
    · rename_i h2
      split at h
      · rename_i h3; exact ⟨h1, h2, .inl h3⟩
      · exact ⟨h1, h2, .inr (by simpa using h)⟩
theorem Fr.wrt {s s' : St} {i : Nat} {o : O} (h : s.wrt i o = some s') : Fr s s' := by
  have h : some { s with H := s.H.set (i, o) (i + 1), wr := Cm s.lo (i, 0, 0) s.wr } = some s' := h;simp only [Option.some.injEq] at h;subst h;refine ⟨Nat.le_refl _, rfl, fun x hx => Gz.1 x hx, fun r hr hx => ?_⟩;by_cases e : r.1 = i
  · have := aY (hx (i, 0, 0) (Gz.2 (by simp only; omega))) e;exact absurd rfl this.2.1
  · exact fG.same fun o' ho => by
      rw [show ({ s with H := s.H.set (i, o) (i + 1), wr := Cm s.lo (i, 0, 0) s.wr } : St).blk r.1 = s.blk r.1 from Pz (n := s.n) e]; exact ho
theorem Yc (v : V) (l : List V) : Lw (v :: l) 0 = some v := by rw [Js]; simp
theorem Mf (v : V) (l : List V) (j : Nat) : Lw (v :: l) (j + 1) = Lw l j := by rw [Js, Js]; simp
theorem Yd : ∀ (l : List V) (n : Nat) (us l' : List V), Ny l n us = some l' → ∀ j, (j < n ∨ n + us.length ≤ j) → Lw l' j = Lw l j
  | [], n, us, l', h, j, hj => by
    cases us with
    | nil =>
      have h : Be (Nat.beq n 0) (some []) none = some l' := h;obtain ⟨_, h⟩ := Ch.1 h;simp only [Option.some.injEq] at h;subst h; rfl
    | cons u us => cases h
  | v :: r, n, us, l', h, j, hj => by
    cases us with
    | nil =>
      have h : Be (Nat.beq n 0) (some (v :: r)) (Be (Nat.ble n (r.length + 1)) (some (v :: r)) none) = some l' := h;simp only [Dg] at h;split at h
      · simp only [Option.some.injEq] at h; subst h; rfl
      · split at h
        · simp only [Option.some.injEq] at h; subst h; rfl
        · cases h
    | cons u us =>
      have h : Be (Nat.beq n 0) (Af (Ny r 0 us) fun l => some (u :: l)) (Af (Ny r (Nat.sub n 1) (u :: us)) fun l => some (v :: l)) = some l' := h;simp only [Dg, Nat.beq_eq] at h;split at h
      · rename_i h0
        have h0 : n = 0 := h0;subst h0;obtain ⟨l2, h2, h3⟩ := Ab.1 h;simp only [Option.some.injEq] at h3;subst h3;cases j with
        | zero => simp at hj
        | succ j =>
          rw [Mf, Mf];exact Yd r 0 us l2 h2 j (.inr (by simp only [List.length_cons] at hj; omega))
      · rename_i h0
        have h0 : ¬ n = 0 := h0;obtain ⟨l2, h2, h3⟩ := Ab.1 h;simp only [Option.some.injEq] at h3;subst h3;cases j with
        | zero => rw [Yc, Yc]
        | succ j =>
          rw [Mf, Mf];exact Yd r (n - 1) (u :: us) l2 h2 j z6
theorem Fr.wrc {s s' : St} {i k n : Nat} {l l' us : List V} {t : TypeId} {f : Nat × Nat} (hb : s.blk i = some (.cells l t f)) (hs : Ny l k us = some l') (hn : us.length ≤ n) (h : s.wrc i k n (.cells l' t f) = some s') : Fr s s' := by
  have h : some { s with H := s.H.set (i, .cells l' t f) (i + 1), wr := Cm s.lo (i, k, k + n) s.wr } = some s' := h;simp only [Option.some.injEq] at h;subst h;refine ⟨Nat.le_refl _, rfl, fun x hx => Gz.1 x hx, fun r hr hx => ?_⟩;by_cases e : r.1 = i
  · have := aY (hx (i, k, k + n) (Gz.2 (by simp only; omega))) e;simp only at this;intro o ho;rw [e, hb] at ho;simp only [Option.some.injEq] at ho;subst ho;rw [if_neg this.1];intro l0 t0 f0 e0;simp only [O.cells.injEq] at e0;obtain ⟨rfl, rfl, rfl⟩ := e0;refine ⟨l', ?_, fun j v h1 h2 h3 => ?_⟩
    · rw [e];simp only [St.blk];rw [T.get_set _ _ _ _ z6, if_pos rfl]; rfl
    · rw [Yd _ _ _ _ hs j z6]; exact h3
  · exact fG.same fun o' ho => by
      rw [show ({ s with H := s.H.set (i, .cells l' t f) (i + 1), wr := Cm s.lo (i, k, k + n) s.wr } : St).blk r.1 = s.blk r.1 from Pz (n := s.n) e]; exact ho
theorem Fr.put {s s' : St} {d : Nat} {v : V} (h : s.put d v = some s') : Fr s s' ∧ s'.N = s.N := by
  unfold St.put at h;obtain ⟨_, h⟩ := Ch.1 h;simp only [Option.some.injEq] at h;subst h;exact ⟨Fr.refl s, rfl⟩
theorem Fr.puto {s s' : St} {d : Option Nat} {v : V} (h : s.puto d v = some s') : Fr s s' := by
  unfold St.puto at h;cases d with
  | none => simp only [Se, Option.some.injEq] at h; subst h; exact Fr.refl s
  | some d => exact (Fr.put h).1
theorem Fr.kill : ∀ {l : List Nat} {s s' : St}, s.kill l = some s' → Fr s s'
  | [], s, s', h => by
    have h : some s = some s' := h;simp only [Option.some.injEq] at h; subst h; exact Fr.refl s
  | i :: l, s, s', h => by
    have h : Af (s.kill1 i) (fun s => s.kill l) = some s' := h;obtain ⟨s1, h1, h2⟩ := Ab.1 h;unfold St.kill1 at h1;split at h1
    · exact (Fr.wrt h1).trans (Fr.kill h2)
    · cases h1

section
variable {c : Dr}
theorem oU {s s' : St} {e k : Nat} {xs : List (List V)} {v : V} (hlo : s.lo ≤ s.n) (h : dC s e k xs = some (v, s')) : Fr s s' := by
  unfold dC at h;split at h
  · simp only [Ab, Option.some.injEq, Prod.mk.injEq] at h;obtain ⟨s1, h1, _, rfl⟩ := h;exact Fr.new hlo h1
  · cases h
theorem Sz {s s' : St} {e k by_ : Nat} {xs : List (List V)} {v : V} (hlo : s.lo ≤ s.n) (h : Kr s e k by_ xs = some (v, s')) : Fr s s' := by
  unfold Kr at h;split at h
  · exact oU hlo h
  · cases h
theorem lS {s s' : St} {x y : V} {t : TypeId} {t1 : Option TypeId} {v : V} (hlo : s.lo ≤ s.n) (h : Sm c s x y t t1 = some (v, s')) : Fr s s' := by
  unfold Sm at h;simp only [Ab] at h;obtain ⟨e, _, k, _, ys, _, by_, _, z, _, h⟩ := h;split at h
  · cases h
  · split at h
    · split at h
      · simp only [Option.some.injEq, Prod.mk.injEq] at h; obtain ⟨_, rfl⟩ := h; exact Fr.refl s
      · exact Sz hlo h
    · split at h
      · split at h
        · split at h
          · simp only [Ab, Option.some.injEq, Prod.mk.injEq] at h;obtain ⟨_, _, _, _, s1, h1, _, rfl⟩ := h;exact Fr.wrt h1
          · simp only [Ab] at h;obtain ⟨s1, h1, h2⟩ := h;exact (Fr.wrt h1).trans (Sz ((Fr.wrt h1).le hlo) h2)
        · cases h
      · cases h
    · split at h
      · split at h
        · simp only [Option.some.injEq, Prod.mk.injEq] at h; obtain ⟨_, rfl⟩ := h; exact Fr.refl s
        · simp only [Ab] at h;obtain ⟨p, _, h⟩ := h;split at h
          · exact Sz hlo h
          · cases h
      · split at h
        · split at h
          · simp only [Ab, Option.some.injEq, Prod.mk.injEq] at h;obtain ⟨l', _, s1, h1, _, rfl⟩ := h;exact Fr.wrt h1
          · cases h
        · cases h
    · cases h
theorem iP {s s' : St} {x y : V} {t : TypeId} {r : List TypeId} {v : V} (hlo : s.lo ≤ s.n) (h : Ob c s x y t r = some (v, s')) : Fr s s' := by
  unfold Ob at h;split at h
  · unfold Xr at h;simp only [Ab] at h;obtain ⟨e, _, k, _, by_, _, z, _, h⟩ := h;split at h
    · split at h
      · exact Sz hlo h
      · cases h
    · cases h
  · exact lS hlo h
theorem wK {s s' : St} {x y : V} {t : TypeId} {v : V} (h : gY c s x y t = some (v, s')) : Fr s s' := by
  unfold gY at h;simp only [Ab] at h;obtain ⟨e, _, k, _, p, _, h⟩ := h;split at h
  · cases h
  · split at h
    · split at h
      · split at h
        · simp only [Ab, Option.some.injEq, Prod.mk.injEq] at h;obtain ⟨l', _, s1, h1, _, rfl⟩ := h;exact Fr.wrt h1
        · cases h
      · cases h
    · simp only [Option.some.injEq, Prod.mk.injEq] at h; obtain ⟨_, rfl⟩ := h; exact Fr.refl s
    · cases h
theorem oV {s s' : St} {t : TypeId} {m k v : V} (h : uV c s t m k v = some s') : Fr s s' := by
  unfold uV at h;split at h
  · simp only [Ab] at h;obtain ⟨ke, _, kd, _, _, _, h⟩ := h;split at h
    · obtain ⟨r, _, h⟩ := Ab.1 h;split at h <;> exact Fr.wrt h
    · cases h
  · cases h
theorem lT {s s' : St} {t : TypeId} {m k v : V} (h : Sn c s t m k = some (v, s')) : Fr s s' := by
  unfold Sn at h;split at h
  · simp only [Ab] at h;obtain ⟨ke, _, kd, _, _, _, h⟩ := h;split at h
    · simp only [Ab, Option.some.injEq, Prod.mk.injEq] at h;obtain ⟨r, _, s1, h1, _, rfl⟩ := h;exact Fr.wrt h1
    · cases h
  · cases h
theorem rG {s s' : St} {t : TypeId} {x y : Operand} (h : Xs c s t x y = some s') : Fr s s' := by
  simp only [Xs, Ab] at h;obtain ⟨u, hu, v, hv, k, hk, h⟩ := h;split at h
  · cases h
  · rename_i hc
    simp only [Bool.and_eq_true, Nat.beq_eq, beq_iff_eq] at hc;split at h
    · split at h
      · rename_i hb
        split at h
        · obtain ⟨l', hl', h⟩ := Ab.1 h;exact Fr.wrc hb hl' (by rw [hc.1]; exact Nat.le_refl _) h
        · cases h
      · cases h
    · split at h
      · simp only [Ab] at h;obtain ⟨l', _, xs', _, h⟩ := h;exact Fr.wrt h
      · cases h
    · cases h
theorem F2 {s s' : St} {op : Op} {v : Option V} (hlo : s.lo ≤ s.n) (h : qK c s op = some (v, s')) : Fr s s' := by
  unfold qK at h;split at h
  · obtain ⟨u, _, h⟩ := Ab.1 h;split at h
    · simp only [Ab, Option.some.injEq, Prod.mk.injEq] at h;obtain ⟨_, _, _, _, _, _, p, hp, _, rfl⟩ := h;exact oU hlo hp
    · cases h
  · simp only [Ab, Option.some.injEq, Prod.mk.injEq] at h;obtain ⟨s1, h1, _, rfl⟩ := h;exact rG h1
  · simp only [Ab, Option.some.injEq, Prod.mk.injEq] at h;obtain ⟨_, _, _, _, _, _, s1, h1, _, rfl⟩ := h;exact oV h1
  · simp only [Ab, Option.some.injEq, Prod.mk.injEq] at h;obtain ⟨_, _, _, _, _, _, s1, h1, _, rfl⟩ := h;exact oV h1
  · obtain ⟨vs, _, h⟩ := Ab.1 h;split at h
    · simp only [Ab, Option.some.injEq, Prod.mk.injEq] at h;obtain ⟨p, hp, _, rfl⟩ := h;exact iP hlo hp
    · simp only [Ab, Option.some.injEq, Prod.mk.injEq] at h;obtain ⟨p, hp, _, rfl⟩ := h;exact wK hp
    · simp only [Ab, Option.some.injEq, Prod.mk.injEq] at h;obtain ⟨p, hp, _, rfl⟩ := h;exact lT hp
    · simp only [Ab, Option.some.injEq, Prod.mk.injEq] at h;obtain ⟨_, _, _, rfl⟩ := h;exact Fr.refl s
    · simp only [Ab, Option.some.injEq, Prod.mk.injEq] at h;obtain ⟨_, _, _, rfl⟩ := h;exact Fr.refl s
    · simp only [Ab, Option.some.injEq, Prod.mk.injEq] at h;obtain ⟨_, _, _, rfl⟩ := h;exact Fr.refl s
    · simp only [Ab] at h;obtain ⟨_, _, _, _, h⟩ := h;split at h
      · split at h
        · simp only [Ab, Option.some.injEq, Prod.mk.injEq] at h;obtain ⟨_, _, _, _, s1, h1, _, rfl⟩ := h;exact Fr.wrt h1
        · cases h
      · cases h
    · cases h
  · obtain ⟨u, _, h⟩ := Ab.1 h;split at h
    · simp only [Ab, Option.some.injEq, Prod.mk.injEq] at h;obtain ⟨_, _, s1, h1, _, rfl⟩ := h;exact Fr.new hlo h1
    · obtain ⟨_, _, h⟩ := Ab.1 h;split at h
      · simp only [Ab, Option.some.injEq, Prod.mk.injEq] at h;obtain ⟨s1, h1, _, rfl⟩ := h;exact Fr.new hlo h1
      · cases h
    · cases h
  · obtain ⟨u, _, h⟩ := Ab.1 h;split at h
    · split at h
      · split at h
        · simp only [Ab, Option.some.injEq, Prod.mk.injEq] at h;obtain ⟨s1, h1, _, rfl⟩ := h;exact Fr.wrt h1
        · simp only [Option.some.injEq, Prod.mk.injEq] at h;obtain ⟨_, rfl⟩ := h;exact Fr.refl s
      · cases h
    · cases h
  · cases h
theorem wL {s s' : St} {op : Op} {v : Option V} (hlo : s.lo ≤ s.n) (h : mop c s op = some (v, s')) : Fr s s' := by
  unfold mop at h;cases ha : S9 c s op with
  | none => rw [ha] at h; exact F2 hlo h
  | some p =>
    rw [ha] at h;simp only [Iy, Ab, Option.some.injEq, Prod.mk.injEq] at h;obtain ⟨s1, h1, _, rfl⟩ := h;exact Fr.new hlo h1
theorem aZ {s : St} {i m since : Nat} {seen : List Nat} {last : Nat} : ∀ {es : List (V × V × Nat)} {l : List (V × St)}, Oc s i m since seen last es = some l → ∀ p ∈ l, Fr s p.2
  | [], l, h => by simp only [Oc, Option.some.injEq] at h; subst h; intro p hp; cases hp
  | e :: r, l, h => by
    simp only [Oc, Ab, Option.some.injEq] at h;obtain ⟨s1, h1, l1, h2, rfl⟩ := h;intro p hp;rcases List.mem_cons.1 hp with rfl | hp
    · exact Fr.wrt h1
    · exact aZ h2 p hp
theorem iQ {s : St} {x : Operand} {l : List (V × St)} (h : gZ s x = some l) : ∀ p ∈ l, Fr s p.2 := by
  simp only [gZ, Ab] at h;obtain ⟨v, _, h⟩ := h;split at h
  · split at h
    · split at h
      · split at h
        · split at h
          · simp only [Option.some.injEq] at h; subst h;intro p hp;simp only [List.mem_singleton] at hp;subst hp; exact Fr.refl s
          · exact aZ h
        · cases h
      · cases h
    · cases h
  · cases h
end
end Go.Proofs.YtbooaoddioibeaaGreatDoor.Jd

namespace Go.Proofs.YtbooaoddioibeaaGreatDoor.Jd
open Go.Proofs.Tryz
open Go.Proofs
open Go.RowKit (Below)
set_option linter.unusedVariables false
set_option linter.unusedSimpArgs false
theorem bA {α β : Type} {k : α → Option (List β)} : ∀ {l : List α} {r : List β}, D1 k l = some r → (∀ x ∈ l, ∃ rx, k x = some rx ∧ ∀ y ∈ rx, y ∈ r) ∧ ∀ y ∈ r, ∃ x ∈ l, ∃ rx, k x = some rx ∧ y ∈ rx
  | [], r, h => by
    have h : some [] = some r := h;simp only [Option.some.injEq] at h;subst h;exact ⟨fun x hx => (by cases hx), fun y hy => by cases hy⟩
  | [a], r, h => by
    have h : k a = some r := h;refine ⟨fun x hx => ?_, fun y hy => ⟨a, List.mem_cons_self, r, h, hy⟩⟩;simp only [List.mem_singleton] at hx;subst hx;exact ⟨r, h, fun y hy => hy⟩
  | a :: b :: t, r, h => by
    have h : Af (k a) (fun x => Af (D1 k (b :: t)) fun y => some (x ++ y)) = some r := h;obtain ⟨x, hx, h⟩ := Ab.1 h;obtain ⟨y, hy, h⟩ := Ab.1 h;simp only [Option.some.injEq] at h;subst h;obtain ⟨g1, g2⟩ := bA hy;refine ⟨fun z hz => ?_, fun z hz => ?_⟩
    · rcases List.mem_cons.1 hz with rfl | hz
      · exact ⟨x, hx, fun u hu => List.mem_append_left _ hu⟩
      · obtain ⟨rx, e1, e2⟩ := g1 z hz;exact ⟨rx, e1, fun u hu => List.mem_append_right _ (e2 u hu)⟩
    · rcases List.mem_append.1 hz with hz | hz
      · exact ⟨a, List.mem_cons_self, x, hx, hz⟩
      · obtain ⟨q, hq, rx, e1, e2⟩ := g2 z hz;exact ⟨q, List.mem_cons_of_mem _ hq, rx, e1, e2⟩
theorem Cl {α β : Type} {m : Option (List α)} {k : α → Option (List β)} {r : List β} (h : jX m k = some r) : ∃ l, m = some l ∧ (∀ x ∈ l, ∃ rx, k x = some rx ∧ ∀ y ∈ rx, y ∈ r) ∧ ∀ y ∈ r, ∃ x ∈ l, ∃ rx, k x = some rx ∧ y ∈ rx := by
  obtain ⟨l, hl, h⟩ := Ab.1 (show Af m (fun l => D1 k l) = some r from h);exact ⟨l, hl, bA h⟩
theorem Ba {α β : Type} {m : Option α} {k : α → Option β} {r : β} : one m k = some r ↔ ∃ a, m = some a ∧ k a = some r := Ab
theorem Fr.cong {s s0 t t0 : St} (h : Fr s t) (n1 : s0.n = s.n := by rfl) (h1 : s0.H = s.H := by rfl) (l1 : s0.lo = s.lo := by rfl) (w1 : s0.wr = s.wr := by rfl) (n2 : t0.n = t.n := by rfl) (h2 : t0.H = t.H := by rfl) (l2 : t0.lo = t.lo := by rfl) (w2 : t0.wr = t.wr := by rfl) : Fr s0 t0 := by
  have b1 : ∀ i, s0.blk i = s.blk i := fun i => by simp only [St.blk, h1]
  have b2 : ∀ i, t0.blk i = t.blk i := fun i => by simp only [St.blk, h2]
  obtain ⟨f1, f2, f3, f4⟩ := h;refine ⟨by rw [n1, n2]; exact f1, by rw [l1, l2]; exact f2, fun x hx => by rw [w2]; exact f3 x (w1 ▸ hx), fun r hr hx => ?_⟩;have := f4 r (l1 ▸ hr) (fun x hm => hx x (w2 ▸ hm));intro o ho;rw [b1] at ho;have := this o ho;rw [b2]; exact this
structure dR (e : Ev) : Prop where
  c : ∀ k s l, e.c k s = some l → s.lo ≤ s.n → ∀ p ∈ l, Fr s p.2
  o : ∀ o s l, e.o o s = some l → s.lo ≤ s.n → ∀ s' ∈ l, Fr s s'
  f : ∀ g args s l, e.f g args s = some l → s.lo ≤ s.n → ∀ p ∈ l, Fr s p.2
section
variable {c : Dr} {e : Ev}
theorem U2 (he : dR e) {ops : Array Oper} {o : Oper} {ih : St → Option (List St)} (hi : ∀ s l, ih s = some l → s.lo ≤ s.n → ∀ s' ∈ l, Fr s s') {s : St} {l : List St} (h : xOp e ops o ih s = some l) (hlo : s.lo ≤ s.n) : ∀ s' ∈ l, Fr s s' := by
  unfold xOp at h;split at h
  · cases h
  · obtain ⟨s1, h1, h2⟩ := Ba.1 h;have f1 := Fr.puto h1;exact fun s' hs => f1.trans (hi _ _ h2 (f1.le hlo) s' hs)
  · obtain ⟨l1, h1, _, h3⟩ := Cl h;intro s' hs;obtain ⟨s1, m9, rx, h4, h5⟩ := h3 s' hs;have f1 := he.o _ _ _ h1 hlo s1 m9;exact f1.trans (hi _ _ h4 (f1.le hlo) s' h5)
theorem wM (he : dR e) {ops : Array Oper} : ∀ {os : List Oper} {s : St} {l : List St}, xL e ops os s = some l → s.lo ≤ s.n → ∀ s' ∈ l, Fr s s'
  | [], s, l, h, hlo => by
    have h : some [s] = some l := h;simp only [Option.some.injEq] at h;subst h;intro s' hs;simp only [List.mem_singleton] at hs;subst hs; exact Fr.refl _
  | o :: os, s, l, h, hlo => U2 he (ih := xL e ops os) (fun s l h hlo => wM he h hlo) h hlo
theorem dS {lo : Nat} : ∀ {ws wr : List RE}, (∀ x ∈ wr, x ∈ Fy ws wr fun r _ ih => Cm lo r ih) ∧ ∀ x ∈ ws, x.1 < lo → x ∈ Fy ws wr fun r _ ih => Cm lo r ih
  | [], wr => ⟨fun x hx => hx, fun x hx => by cases hx⟩
  | w :: ws, wr => by
    obtain ⟨h1, h2⟩ := dS (lo := lo) (ws := ws) (wr := wr);simp only [tY];refine ⟨fun x hx => Gz.1 x (h1 x hx), fun x hx hl => ?_⟩;rcases List.mem_cons.1 hx with rfl | hx
    · exact Gz.2 hl
    · exact Gz.1 x (h2 x hx hl)
theorem dT {r w : RE} (h : r.1 ≠ w.1) : Ja r w = true := by
  unfold Ja;rw [Dg, if_neg];intro hb;exact h (Nat.eq_of_beq_eq_true hb)
theorem wN {s s' : St} (hlo : s.lo ≤ s.n) (h : Fr { s with lo := s.n, wr := [] } s') : Fr s (Xw s s') := by
  obtain ⟨f1, f2, f3, f4⟩ := h;refine ⟨f1, rfl, fun x hx => dS.1 x hx, fun r hr hx => ?_⟩;have := f4 r (Nat.lt_of_lt_of_le hr hlo) (fun x hm => ?_)
  · exact this
  · by_cases hl : x.1 < s.lo
    · exact hx x (dS.2 x hm hl)
    · exact dT z6
theorem U3 (he : dR e) {ops : Array Oper} {p : PK × Nat} {ih : An → St → DR} (hi : ∀ ys s x, ih ys s = some x → s.lo ≤ s.n → Fr s x.1) {ys : An} {s : St} {x : St × List (Nat × List RE)} (h : xDo c e ops p ih ys s = some x) (hlo : s.lo ≤ s.n) : Fr s x.1 := by
  unfold xDo at h;split at h
  · cases h
  · rename_i o ho
    split at h
    · unfold xDf at h;obtain ⟨q, _, h⟩ := Ba.1 h;obtain ⟨s1, h1, h⟩ := Ba.1 h;obtain ⟨s2, h2, h⟩ := Ba.1 h;have f1 := (Fr.new hlo h1).trans (Fr.puto h2);exact f1.trans (hi _ _ _ h (f1.le hlo))
    · split at h
      · cases h
      · split at h
        · cases h
        · obtain ⟨s1, h1, h2⟩ := Ba.1 h;have f1 := Fr.puto h1;exact f1.trans (hi _ _ _ h2 (f1.le hlo))
      · split at h
        · unfold xDq at h;obtain ⟨q, _, h⟩ := Ba.1 h;obtain ⟨s1, h1, h⟩ := Ba.1 h;obtain ⟨x1, h2, h⟩ := Ba.1 h;obtain ⟨_, h⟩ := Ch.1 h;simp only [Option.some.injEq] at h;subst h;have f1 := Fr.puto h1;exact f1.trans (show Fr _ x1.1 from hi _ _ x1 h2 (f1.le hlo))
        · unfold xDl at h;split at h
          · rename_i s1 h1
            obtain ⟨x1, h2, h⟩ := Ba.1 h;simp only [Option.some.injEq] at h;subst h;have f1 := wN hlo (he.o _ _ _ h1 (Nat.le_refl _) s1 List.mem_cons_self);exact f1.trans (show Fr _ x1.1 from hi _ _ x1 h2 (f1.le hlo))
          · cases h
        · obtain ⟨q, _, h⟩ := Ba.1 h;exact hi _ _ _ h hlo
theorem M8 (he : dR e) {ops : Array Oper} : ∀ {pl : List (PK × Nat)} {ys : An} {s : St} {x : St × List (Nat × List RE)}, xD c e ops pl ys s = some x → s.lo ≤ s.n → Fr s x.1
  | [], ys, s, x, h, hlo => by
    have h : some (s, []) = some x := h;simp only [Option.some.injEq] at h;subst h; exact Fr.refl _
  | p :: pl, ys, s, x, h, hlo => U3 he (ih := xD c e ops pl) (fun ys s x h hlo => M8 he h hlo) h hlo
theorem Ur {α : Type} {st : α → St} {m : Option (List α)} {k : α → Option (List (Ex × St))} {s : St} (hlo : s.lo ≤ s.n) (hm : ∀ l, m = some l → ∀ x ∈ l, Fr s (st x)) (hk : ∀ x r, k x = some r → (st x).lo ≤ (st x).n → ∀ p ∈ r, Fr (st x) p.2) {r : List (Ex × St)} (h : jX m k = some r) : ∀ p ∈ r, Fr s p.2 := by
  obtain ⟨l, h1, _, h3⟩ := Cl h;intro p hp;obtain ⟨x, hx, rx, h4, h5⟩ := h3 p hp;have f1 := hm l h1 x hx;exact f1.trans (hk x rx h4 (f1.le hlo) p h5)
theorem oW {s : St} {r : List (Ex × St)} (h : qM s = some r) : ∀ p ∈ r, Fr s p.2 := by
  simp only [qM, Option.some.injEq] at h;subst h;intro p hp;simp only [List.mem_singleton] at hp;subst hp; exact Fr.refl _
theorem Ol {x : Ex} {s : St} {r : List (Ex × St)} (h : some [(x, s)] = some r) : ∀ p ∈ r, Fr s p.2 := by
  simp only [Option.some.injEq] at h;subst h;intro p hp;simp only [List.mem_singleton] at hp;subst hp; exact Fr.refl _
theorem AH1 (he : dR e) {k : Code} {s : St} {r : List (Ex × St)} (h : xC c e k s = some r) (hlo : s.lo ≤ s.n) : ∀ p ∈ r, Fr s p.2 := by
  have hseq : ∀ b (x : Ex × St) r, aN e b x = some r → x.2.lo ≤ x.2.n → ∀ p ∈ r, Fr x.2 p.2 := fun b x r h hlo => by
    unfold aN at h;split at h
    · exact he.c _ _ _ h hlo
    · exact Ol h
  unfold xC xCt at h;split at h
  · exact Ol h
  · exact Ol h
  · exact Ol h
  · exact Ol h
  · exact Ur (st := Prod.snd) hlo (fun l hl => he.c _ _ _ hl hlo) (hseq _) h
  · unfold vE at h;split at h
    · exact he.c _ _ _ h hlo
    · exact he.c _ _ _ h hlo
    · cases h
  · refine Ur (st := Prod.snd) hlo (fun l hl => he.c _ _ _ hl hlo) (fun x r h hlo => ?_) h;unfold dH at h;split at h
    · split at h <;> exact Ol h
    · exact Ol h
  · exact he.c _ _ _ h hlo
  · exact Ur (st := Prod.snd) hlo (fun l hl => he.c _ _ _ hl hlo) (hseq _) h
  · unfold D2 at h;split at h
    · exact Ur (st := id) hlo (fun l hl => wM he hl hlo) (fun x r h _ => oW h) h
    · unfold vF at h;split at h
      · split at h
        · rename_i r1 h1
          have f1 := M8 he h1 hlo;intro p hp;exact f1.trans (Ur (st := id) (f1.le hlo) (fun l hl => wM he hl (f1.le hlo)) (fun x r h _ => oW h) h p hp)
        · cases h
      · cases h
  · unfold xRf at h;split at h
    · cases h
    · split at h
      · obtain ⟨_, h⟩ := Ch.1 h;obtain ⟨s1, h1, h⟩ := Ba.1 h;obtain ⟨s2, h2, h⟩ := Ba.1 h;have f1 := Fr.new hlo h1;have f2 := f1.trans (Fr.new (f1.le hlo) h2);refine Ur (st := Prod.snd) hlo (fun l hl x hx => f2.trans (he.f _ _ _ _ hl (f2.le hlo) x hx)) (fun x r h hlo => ?_) h;unfold T4 at h;split at h
        · obtain ⟨s4, h4, h⟩ := Ba.1 h;intro p hp;have := Ol h p hp;exact ((Fr.wrt h4).trans (this.cong : Fr s4 p.2))
        · obtain ⟨s4, h4, h⟩ := Ba.1 h;intro p hp;have f4 := Fr.wrt h4;have := he.c _ _ _ h (f4.le hlo) p hp;exact f4.trans (this.cong : Fr s4 p.2)
        · cases h
      · cases h
  · cases h
theorem Wj {o : Oper} {r : V × St} {l : List St} (h : lG o r = some l) : ∀ s' ∈ l, Fr r.2 s' := by
  obtain ⟨s1, h1, h⟩ := Ba.1 (show one (r.2.puto o.dst r.1) (fun s => some [s]) = some l from h);simp only [Option.some.injEq] at h;subst h;intro s' hs;simp only [List.mem_singleton] at hs;subst hs; exact Fr.puto h1
theorem Wk {α : Type} {st : α → St} {m : Option (List α)} {k : α → Option (List St)} {s : St} (hlo : s.lo ≤ s.n) (hm : ∀ l, m = some l → ∀ x ∈ l, Fr s (st x)) (hk : ∀ x r, k x = some r → (st x).lo ≤ (st x).n → ∀ p ∈ r, Fr (st x) p) {r : List St} (h : jX m k = some r) : ∀ p ∈ r, Fr s p := by
  obtain ⟨l, h1, _, h3⟩ := Cl h;intro p hp;obtain ⟨x, hx, rx, h4, h5⟩ := h3 p hp;have f1 := hm l h1 x hx;exact f1.trans (hk x rx h4 (f1.le hlo) p h5)
theorem iR : ∀ {ts : List Tmp} {vs : List V} {s s' : St}, aL ts vs s = some s' → Fr s s'
  | t :: ts, v :: vs, s, s', h => by
    obtain ⟨s1, h1, h2⟩ := Ab.1 (show Af (s.put t v) (fun s => aL ts vs s) = some s' from h);exact (Fr.put h1).1.trans (iR h2)
  | [], [], s, s', h => by
    have h : some s = some s' := h;simp only [Option.some.injEq] at h;subst h; exact Fr.refl _
  | [], _ :: _, s, s', h => by cases h
  | _ :: _, [], s, s', h => by cases h
theorem rH {s s' : St} {i : Nat} (h : Xx s i = some s') : Fr s s' := by
  unfold Xx at h;split at h
  · exact Fr.wrt h
  · cases h
theorem F3 {s s' : St} {i : Nat} {st : LoopState} {j : Option Code} (h : vG s i st j = some s') : Fr s s' := by
  unfold vG at h;split at h
  · exact Fr.wrt h
  · cases h
theorem F4 {o : Oper} {s : St} {i : Nat} {st : LoopState} {j : Option Code} {b : Bool} {r : St} {l : List St} (h : lF o s i st j b r = some l) : ∀ s' ∈ l, Fr r s' := by
  unfold lF at h;split at h
  · obtain ⟨s6, h6, h⟩ := Ba.1 h;obtain ⟨s7, h7, h⟩ := Ba.1 h;simp only [Option.some.injEq] at h;subst h;intro s' hs;simp only [List.mem_singleton] at hs;subst hs;exact (F3 h6).trans ((Fr.puto h7).cong : Fr s6 _)
  · cases h
theorem U4 (he : dR e) {o : Oper} {i : Nat} {vs : List V} {s : St} {l : List St} (h : xYl e o i vs s = some l) (hlo : s.lo ≤ s.n) : ∀ s' ∈ l, Fr s s' := by
  unfold xYl at h;split at h
  · obtain ⟨s2, h2, h⟩ := Ba.1 h;have f2 : Fr s s2 := (iR h2).cong;refine Wk (st := Prod.snd) hlo (fun l hl x hx => f2.trans (he.c _ _ _ hl (f2.le hlo) x hx)) (fun r rs h hlo => ?_) h;unfold T6 at h;split at h
    · obtain ⟨s4, h4, h⟩ := Ba.1 h;have f4 := rH h4;intro p hp;refine f4.trans (Wk (st := Prod.snd) (f4.le hlo) (fun l hl x hx => he.c _ _ _ hl (f4.le hlo) x hx) (fun q rs h hlo => ?_) h p hp);unfold T5 at h;split at h <;> exact F4 h
    · cases h
  · cases h
theorem AH2 (he : dR e) {o : Oper} {s : St} {l : List St} (h : xO c e o s = some l) (hlo : s.lo ≤ s.n) : ∀ s' ∈ l, Fr s s' := by
  unfold xO at h;split at h
  · unfold vH at h;split at h
    · exact Wk (st := Prod.snd) hlo (fun l hl x hx => he.f _ _ _ _ hl hlo x hx) (fun x r h _ => Wj h) h
    · exact U4 he h hlo
    · cases h
  · split at h
    · exact Wj h
    · unfold vI at h;split at h
      · rename_i q hq
        have f1 := wL hlo (v := q.1) (s' := q.2) hq;split at h <;> exact fun s' hs => f1.trans (Wj h s' hs)
      · unfold oF at h;split at h
        · exact Wk (st := Prod.snd) hlo (fun l hl x hx => iQ hl x hx) (fun x r h _ => Wj h) h
        · cases h
theorem iS {fn : Func} {s : St} {r : Ex × St} {l : List (V × St)} (h : Sq c fn s r = some l) : ∀ p ∈ l, Fr r.2 p.2 := by
  unfold Sq at h;split at h
  · cases h
  · obtain ⟨s1, h1, h⟩ := Ba.1 h;obtain ⟨vs, _, h⟩ := Ba.1 h;simp only [Option.some.injEq] at h;subst h;intro p hp;simp only [List.mem_singleton] at hp;subst hp;exact (Fr.kill h1).cong
theorem Jv {s : St} {args : List V} {e : Ii} : ∀ {l : List Ii}, Wc s args l = some e → e ∈ l ∧ aM s args e = true
  | [], h => by cases h
  | x :: l, h => by
    have h : Be (aM s args x) (some x) (Wc s args l) = some e := h;cases hx : aM s args x with
    | true =>
      rw [hx, Iz] at h;simp only [Option.some.injEq] at h;subst h;exact ⟨List.mem_cons_self, hx⟩
    | false =>
      rw [hx, Ft] at h;exact ⟨List.mem_cons_of_mem _ (Jv h).1, (Jv h).2⟩
theorem F5 {h : Hk} {s s' : St} {args : List V} {v : V} (hlo : s.lo ≤ s.n) (hh : Qh c h s args = some (v, s')) : Fr s s' := by
  unfold Qh at hh;split at hh
  · simp only [Ab, Option.some.injEq, Prod.mk.injEq] at hh;obtain ⟨_, _, _, rfl⟩ := hh;exact Fr.refl _
  · simp only [Ab, Option.some.injEq, Prod.mk.injEq] at hh;obtain ⟨e, he, _, rfl⟩ := hh;have he := (Jv he).2;simp only [aM, Bool.and_eq_true, Nat.beq_eq, Nat.ble_eq, beq_iff_eq] at he;exact ⟨by simp only; omega, rfl, fun x hx => hx, fun r hr => absurd hr z6⟩
  · split at hh
    · simp only [Option.some.injEq, Prod.mk.injEq] at hh;obtain ⟨_, rfl⟩ := hh;exact Fr.refl _
    · cases hh
  · split at hh
    · simp only [Ab, Option.some.injEq, Prod.mk.injEq] at hh;obtain ⟨s1, h1, _, rfl⟩ := hh;exact Fr.new hlo h1
    · cases hh
  · simp only [Ab, Option.some.injEq, Prod.mk.injEq] at hh;obtain ⟨_, _, _, _, _, rfl⟩ := hh;exact Fr.refl _
  · simp only [Ab, Option.some.injEq, Prod.mk.injEq] at hh;obtain ⟨_, _, _, _, _, rfl⟩ := hh;exact Fr.refl _
  · simp only [Ab] at hh;obtain ⟨_, _, _, _, _, _, hh⟩ := hh;split at hh
    · simp only [Ab, Option.some.injEq, Prod.mk.injEq] at hh;obtain ⟨_, _, _, _, _, _, s1, h1, _, rfl⟩ := hh;exact Fr.wrt h1
    · cases hh
  · simp only [Ab] at hh;obtain ⟨_, _, _, _, hh⟩ := hh;split at hh
    · simp only [Ab, Option.some.injEq, Prod.mk.injEq] at hh;obtain ⟨_, _, _, rfl⟩ := hh;exact Fr.refl _
    · cases hh
  · simp only [Ab] at hh;obtain ⟨_, _, _, _, hh⟩ := hh;split at hh
    · simp only [Ab, Option.some.injEq, Prod.mk.injEq] at hh;obtain ⟨_, _, s1, h1, _, rfl⟩ := hh;exact Fr.wrt h1
    · cases hh
  · simp only [Ab, Option.some.injEq, Prod.mk.injEq] at hh;obtain ⟨_, _, _, _, s1, h1, _, rfl⟩ := hh;exact Fr.wrt h1
  · cases hh
theorem wO (he : dR e) {g : Nat} {fn : Func} {b : Code} {args : List V} {s : St} {l : List (V × St)} (h : aO c e g fn b args s = some l) (hlo : s.lo ≤ s.n) : ∀ p ∈ l, Fr s p.2 := by
  unfold aO at h;split at h
  · cases h
  · split at h
    · obtain ⟨l1, h1, _, h3⟩ := Cl h;intro p hp;obtain ⟨x, hx, rx, h4, h5⟩ := h3 p hp;have f1 : Fr s x.2 := (he.c _ _ _ h1 hlo x hx).cong;exact f1.trans (iS h4 p h5)
    · obtain ⟨l1, h1, h⟩ := Ba.1 h;unfold oE at h;split at h
      · split at h
        · simp only [Option.some.injEq] at h;subst h;intro p hp;simp only [List.mem_singleton] at hp;subst hp; exact Fr.refl _
        · cases h
      · cases h
theorem M9 (he : dR e) {g : Nat} {args : List V} {s : St} {l : List (V × St)} (h : xW c e g args s = some l) (hlo : s.lo ≤ s.n) : ∀ p ∈ l, Fr s p.2 := by
  unfold xW at h;split at h
  · split at h
    · exact wO he h hlo
    · unfold D3 at h;split at h
      · split at h
        · simp only [Option.some.injEq] at h;subst h;intro p hp;simp only [List.mem_singleton] at hp;subst hp; exact Fr.refl _
        · cases h
      · cases h
  · cases h
theorem AH3 (he : dR e) {g : Nat} {args : List V} {s : St} {l : List (V × St)} (h : xF c e g args s = some l) (hlo : s.lo ≤ s.n) : ∀ p ∈ l, Fr s p.2 := by
  unfold xF at h;split at h
  · split at h
    · rename_i r h1
      simp only [Option.some.injEq] at h;subst h;intro p hp;simp only [List.mem_singleton] at hp;subst hp;exact F5 hlo (v := p.1) (s' := p.2) h1
    · exact M9 he h hlo
  · exact M9 he h hlo
theorem frE (c : Dr) : ∀ n, dR (evx c n)
  | 0 => ⟨fun _ _ _ h => (by cases h), fun _ _ _ h => (by cases h), fun _ _ _ _ h => by cases h⟩
  | n + 1 => ⟨fun k s l h hlo => AH1 (frE c n) h hlo, fun o s l h hlo => AH2 (frE c n) h hlo, fun g args s l h hlo => AH3 (frE c n) h hlo⟩
end
end Go.Proofs.YtbooaoddioibeaaGreatDoor.Jd

namespace Go.Proofs.YtbooaoddioibeaaGreatDoor.Jd
open Go.Proofs.Tryz
open Go.Proofs
open Go.RowKit (Below)
set_option linter.unusedVariables false
set_option linter.unusedSimpArgs false
section
variable {c : Dr} {b0 : World} {Mk : List Nat} {ρ : Au} {D : List Deferred} {s : St} {a : Act} {w : World} {ty : TypeId}
theorem At.place (hA : At b0 Mk ρ s w) (hc : Yv c b0 Mk ρ s.n) {u : V} {l : List V} {o : Nat} {k : Option (Nat × Bool)} (h : Nz c s u = some (l, o, k)) {t : TypeId} {v : V} (hv : Ic c t l o = some v) :
    (∃ p, u.den ρ = .pointer (some p) ∧ (loadVar t p).run c.P w = .ok (v.den ρ) w) ∧ v.lt s.n := by
  have hr := hA.rd (qH o (gQ v) k);refine iF (w := w) hc hA.k h hv hr.b (fun i hi o' ho' => ?_) (fun i hi l' t' f' hb j u' hj1 hj2 hn => ?_)
  · subst hi;exact hr.one (by simp [qH]) ho'
  · subst hi;have := hr.r (i, o, o + gQ v) (by simp [qH]) _ hb;simp only at this;split at this
    · obtain ⟨B, rfl, hw⟩ := this;exact hw.cell List.mem_cons_self (by rw [← Em]; exact Jc hn)
    · exact this _ _ _ rfl j u' hj1 hj2 hn
def U5 (ρ : Au) (n : Nat) (x : V × Bool) (pl : Place) : Prop := x.1.lt n ∧ ((x.2 = false ∧ pl = .val (x.1.den ρ)) ∨ (x.2 = true ∧ ∃ p, x.1.den ρ = .pointer (some p) ∧ pl = .var p))
theorem Wl (hA : At b0 Mk ρ s w) (hc : Yv c b0 Mk ρ s.n) {t : TypeId} {x : V × Bool} {pl : Place} (hx : U5 ρ s.n x pl) {v : V} (h : hX c s t x = some v) : (pl.get t).run c.P w = .ok (v.den ρ) w ∧ v.lt s.n := by
  obtain ⟨hl, hx⟩ := hx;unfold hX at h;split at h
  · rename_i hb
    rcases hx with ⟨h1, rfl⟩ | ⟨h1, _⟩
    · simp only [Option.some.injEq] at h;subst h;exact ⟨by simp [Place.get], hl⟩
    · rw [hb] at h1; cases h1
  · rename_i hb
    rcases hx with ⟨h1, _⟩ | ⟨h1, p, hp, rfl⟩
    · rw [hb] at h1; cases h1
    · simp only [Ab] at h;obtain ⟨⟨l, o, k⟩, h2, h3⟩ := h;obtain ⟨⟨q, g1, g2⟩, g3⟩ := hA.place hc h2 h3;rw [hp] at g1;simp only [Value.pointer.injEq, Option.some.injEq] at g1;subst g1;exact ⟨g2, g3⟩
theorem oX {u v : V} {k n : Nat} {p : Addr} (h : uW u k = some v) (hp : u.den ρ = .pointer (some p)) (hl : u.lt n) : v.den ρ = .pointer (some (p.add k)) ∧ v.lt n := by
  unfold uW at h;split at h
  · simp only [Option.some.injEq] at h;subst h;simp only [V.den, Value.pointer.injEq, Option.some.injEq] at hp;subst hp;exact ⟨by rw [Ay]; rfl, hl⟩
  · simp only [Option.some.injEq] at h;subst h;simp only [V.den, Value.pointer.injEq, Option.some.injEq] at hp;subst hp;exact ⟨by rw [vP]; rfl, hl⟩
  · cases h
theorem Rb (hA : At b0 Mk ρ s w) (hc : Yv c b0 Mk ρ s.n) : ∀ {l : List FieldStep} {t : TypeId} {x : V × Bool} {pl : Place} {r : TypeId × (V × Bool)}, U5 ρ s.n x pl → Pn c s l t x = some r → ∃ pl', U5 ρ s.n r.2 pl' ∧ (follow l t pl).run c.P w = .ok (r.1, pl') w
  | [], t, x, pl, r, hx, h => by
    simp only [Pn, Option.some.injEq] at h;subst h;exact ⟨pl, hx, by simp [follow]⟩
  | p :: l, t, x, pl, r, hx, h => by
    simp only [Pn, Ab] at h;obtain ⟨f, hf, h⟩ := h;obtain ⟨fs, fd, hU, hfd, ho, ht, hp⟩ := aQ hf;split at h
    · rename_i hd
      simp only [Ab] at h;obtain ⟨u, hu, v, hv, h⟩ := h;obtain ⟨g1, g2⟩ := Wl hA hc hx hu;obtain ⟨q, hq⟩ : ∃ q, u.den ρ = .pointer (some q) := by
        unfold uW at hv;split at hv
        · exact ⟨_, rfl⟩
        · exact ⟨_, rfl⟩
        · cases hv
      obtain ⟨e1, e2⟩ := oX hv hq g2;obtain ⟨pl', k1, k2⟩ := Rb (pl := .var (q.add f.1)) hA hc ⟨e2, .inr ⟨rfl, _, e1, rfl⟩⟩ h;refine ⟨pl', k1, ?_⟩;simp [follow, hU, hfd, hd, g1, hq, asAddr, hp, ht, k2]
    · rename_i hd
      split at h
      · rename_i hb
        simp only [Ab] at h;obtain ⟨v, hv, h⟩ := h;rcases hx.2 with ⟨h1, _⟩ | ⟨h1, q, hq, rfl⟩
        · rw [hb] at h1; cases h1
        · obtain ⟨e1, e2⟩ := oX hv hq hx.1;obtain ⟨pl', k1, k2⟩ := Rb (pl := .var (q.add f.1)) hA hc ⟨e2, .inr ⟨rfl, _, e1, rfl⟩⟩ h;refine ⟨pl', k1, ?_⟩;simp [follow, hU, hfd, hd, hp, ht, k2]
      · cases h
theorem iT {P : Program} {tys : Array TypeId} {t : TypeId} {q : Addr} {x y : String} : (Builtin.ssaWrapNilChk_ tys t #[.pointer (some q), strVal x, strVal y]).run P w = .ok (.pointer (some q)) w := rfl
theorem wP (hA : At b0 Mk ρ s w) (hc : Yv c b0 Mk ρ s.n) {t : TypeId} {v u : V} {m : String} {f : Nat} (hl : v.lt s.n) (h : iA c s t v m = some (f, u)) (k : Nat) : (Go.method (k + 1) t (v.den ρ) m).run c.P w = .ok (f, u.den ρ) w ∧ u.lt s.n := by
  simp only [iA, Ab] at h;obtain ⟨i, hi, h⟩ := h;have hi := Dd hi w;split at h
  · rename_i r hr
    simp only [Ab] at h;obtain ⟨xx, hxx, h⟩ := h;obtain ⟨pl, k1, k2⟩ := Rb (pl := .val (v.den ρ)) hA hc ⟨hl, .inl ⟨rfl, rfl⟩⟩ hxx;split at h
    · rename_i f' ptr hfn
      simp only [Ab] at h;obtain ⟨d, hd, h⟩ := h;have hU := Bs hd w;have hmeth : ∀ u', (receiverAt xx.1 pl ptr (if r.path.isEmpty then some ((m.splitOn ".").getLastD m) else none)).run c.P w = .ok u' w → (Go.method (k + 1) t (v.den ρ) m).run c.P w = .ok (f', u') w := fun u' hu' => by
        simp only [Go.method, Sem.run_bind, hi, Result.andThen_ok, hr, k2, hfn, hu', Sem.run_pure]
      split at h
      · split at h
        · simp only [Ab, Option.some.injEq, Prod.mk.injEq] at h;obtain ⟨u', hu', rfl, rfl⟩ := h;obtain ⟨g1, g2⟩ := Wl hA hc k1 hu';refine ⟨hmeth _ ?_, g2⟩;simp [receiverAt, hU, g1]
        · rename_i hnp
          split at h
          · rename_i hb
            simp only [Option.some.injEq, Prod.mk.injEq] at h;obtain ⟨rfl, rfl⟩ := h;rcases k1.2 with ⟨h1, _⟩ | ⟨h1, q, hq, rfl⟩
            · rw [hb] at h1; cases h1
            · refine ⟨hmeth _ ?_, k1.1⟩;rw [hq];cases d <;> first
                | exact absurd rfl (hnp _)
                | simp [receiverAt, hU]
          · cases h
      · split at h
        · simp only [Ab, Option.some.injEq, Prod.mk.injEq] at h;obtain ⟨a', ha', u', hu', rfl, rfl⟩ := h;obtain ⟨g1, g2⟩ := Wl hA hc k1 ha';simp only [hX, Ab] at hu';obtain ⟨⟨l, o, kk⟩, h2, h3⟩ := hu';obtain ⟨⟨q, e1, e2⟩, e3⟩ := hA.place hc h2 h3;rw [e1] at g1;refine ⟨hmeth _ ?_, e3⟩;by_cases hpe : r.path.isEmpty = true
          · simp [receiverAt, hU, g1, hpe, iT, asAddr, e2]
          · simp [receiverAt, hU, g1, hpe, asAddr, e2]
        · rename_i hnp
          simp only [Ab, Option.some.injEq, Prod.mk.injEq] at h;obtain ⟨u', hu', rfl, rfl⟩ := h;obtain ⟨g1, g2⟩ := Wl hA hc k1 hu';refine ⟨hmeth _ ?_, g2⟩;cases d <;> first
            | exact absurd rfl (hnp _)
            | simp [receiverAt, hU, g1]
    · cases h
  · cases h
end
end Go.Proofs.YtbooaoddioibeaaGreatDoor.Jd

namespace Go.Proofs.YtbooaoddioibeaaGreatDoor.Jd
open Go.Proofs.Tryz
open Go.Proofs
open Go.RowKit (Below)
set_option linter.unusedVariables false
set_option linter.unusedSimpArgs false
section
variable {c : Dr} {b0 : World} {Mk : List Nat} {rd : Option Nat} {ρ : Au} {D : List Deferred} {s : St} {a : Act} {w : World} {ty : TypeId}
theorem Mg (he : Gk ρ D s a) {l : Array Operand} {vs : List V} (h : Mx s.E l.toList = some vs) : l.map a.eval = (Ac ρ vs).toArray := by
  have := he.h.evals (cU he.w h);apply Array.ext';rw [Array.toList_map, this]
theorem F6 (hA : At b0 Mk ρ s w) (hc : Yv c b0 Mk ρ s.n) (he : Gk ρ D s a) {k : Call} {g : Nat} {args : List V} (h : uX c s k = some (.fn g args)) :
    (execOp a.eval (Bq (.call k) ty)).run c.P w = (callFunc g (Ac ρ args).toArray).run c.P w ∧ Dh s.n args := by
  obtain ⟨callee, asg, tys⟩ := k;have hprog : ∀ w : World, (Go.program).run c.P w = .ok c.P w := fun _ => rfl
  unfold uX at h;split at h
  · rename_i f hf
    simp only at hf;subst hf;simp only [Ab] at h;obtain ⟨u, hu, vs, hvs, h⟩ := h;have e1 := he.ev hu;have e2 := Mg he hvs;have l1 := he.lt hu;have l2 := Jq he.e hvs;split at h
    · rename_i f' p q
      simp only [Option.some.injEq, Cal.fn.injEq] at h;obtain ⟨rfl, rfl⟩ := h;refine ⟨?_, Fp.2 ⟨Fp.2 ⟨l1.1, l2⟩, l1.2⟩⟩;simp only [Bq, execOp, resolve, e1, e2, V.den, Deferred.ofValue, Sem.run_bind, Sem.run_pure, Result.andThen_ok, invoke];rw [Cq, Cq];simp only [List.append_toArray, List.append_assoc]
    · rename_i f' p q
      simp only [Option.some.injEq, Cal.fn.injEq] at h;obtain ⟨rfl, rfl⟩ := h;refine ⟨?_, Fp.2 ⟨Fp.2 ⟨Ej.2 fun v hv => ?_, l2⟩, Ej.2 fun v hv => ?_⟩⟩
      · simp only [Bq, execOp, resolve, e1, e2, V.den, Deferred.ofValue, Sem.run_bind, Sem.run_pure, Result.andThen_ok, invoke];rw [Cq, Cq, Sf, Sf];congr 2;apply Array.ext';simp
      · obtain ⟨x, _, rfl⟩ := List.mem_map.1 hv; simp [V.lt]
      · obtain ⟨x, _, rfl⟩ := List.mem_map.1 hv; simp [V.lt]
    · cases h
    · cases h
  · rename_i r m hf
    simp only at hf;subst hf;simp only [Ab] at h;obtain ⟨u, hu, vs, hvs, h⟩ := h;have e1 := he.ev hu;have e2 := Mg he hvs;have l1 := he.lt hu;have l2 := Jq he.e hvs;have key : ∀ t (v : V) (f : Nat) (r' : V), v.lt s.n → u.den ρ = .iface t (v.den ρ) → iA c s t v m = some (f, r') → (execOp a.eval (Bq (.call ⟨.invoke r m, asg, tys⟩) ty)).run c.P w = (callFunc f (Ac ρ (r' :: vs)).toArray).run c.P w ∧ Dh s.n (r' :: vs) := fun t v f r' hl hd hm => by
      obtain ⟨g1, g2⟩ := wP hA hc hl hm (c.P.types.size + (Made.depth - 1));have hd1 : c.P.types.size + (Made.depth - 1) + 1 = c.P.types.size + Made.depth := by simp [Made.depth]
      rw [hd1] at g1;refine ⟨?_, ⟨g2, l2⟩⟩;simp only [Bq, execOp, resolve, e1, e2, hd, Sem.run_bind, Sem.run_pure, Result.andThen_ok, invoke];have hx : (#[Value.iface t (v.den ρ)] ++ (Ac ρ vs).toArray).extract 1 (#[Value.iface t (v.den ρ)] ++ (Ac ρ vs).toArray).size = (Ac ρ vs).toArray := by
        apply Array.ext'; simp
      have h0 : (#[Value.iface t (v.den ρ)] ++ (Ac ρ vs).toArray)[0]? = some (Value.iface t (v.den ρ)) := by simp
      rw [h0];simp only [hx, callMethod, Sem.run_bind, hprog, Result.andThen_ok, g1];congr 2;apply Array.ext';simp [Ac]
    split at h
    · rename_i t v
      simp only [Ab, Option.some.injEq, Cal.fn.injEq] at h;obtain ⟨p, hp, rfl, rfl⟩ := h;exact key t v p.1 p.2 l1 rfl hp
    · rename_i t x
      simp only [Ab, Option.some.injEq, Cal.fn.injEq] at h;obtain ⟨p, hp, rfl, rfl⟩ := h;exact key t (.raw x) p.1 p.2 (by simp [V.lt]) rfl hp
    · cases h
  · cases h
theorem F7 (he : Gk ρ D s a) {k : Call} {i : Nat} {vs : List V} (h : uX c s k = some (.yl i vs)) :
    execOp a.eval (Bq (.call k) ty) = Instr.yield (ρ.blk i) (Ac ρ vs).toArray ∧ Dh s.n vs ∧ i < s.n := by
  obtain ⟨callee, asg, tys⟩ := k;unfold uX at h;split at h
  · rename_i f hf
    simp only at hf;subst hf;simp only [Ab] at h;obtain ⟨u, hu, vs, hvs, h⟩ := h;have e1 := he.ev hu;have e2 := Mg he hvs;have l1 := he.lt hu;have l2 := Jq he.e hvs;split at h
    · cases h
    · cases h
    · simp only [Option.some.injEq, Cal.yl.injEq] at h;obtain ⟨rfl, rfl⟩ := h;refine ⟨?_, l2, l1⟩;simp only [Bq, execOp, resolve, e1, e2, V.den, Deferred.ofValue];show (Instr.yield _ (#[] ++ (Ac ρ _).toArray)) = _
      simp
    · cases h
  · simp only [Ab] at h;obtain ⟨u, hu, vs, hvs, h⟩ := h;split at h
    · simp only [Ab, Option.some.injEq] at h;obtain ⟨p, hp, h⟩ := h;cases h
    · simp only [Ab, Option.some.injEq] at h;obtain ⟨p, hp, h⟩ := h;cases h
    · cases h
  · cases h

structure Fj (c : Dr) (b0 : World) (Mk : List Nat) (rd : Option Nat) (ρ : Au) (s : St) (a : Act) (w : World) : Prop where
  at_ : At b0 Mk ρ s w
  e : Gk ρ (s.ms.map fun m => Qj (ρ.blk m)) s a
  c : Yv c b0 Mk ρ s.n
  ms : ∀ m ∈ s.ms, m < s.n
  rd : s.rd = false → rd = none
  lo : s.lo ≤ s.n
theorem At.cong {s1 : St} (h : At b0 Mk ρ s w) (h1 : s1.n = s.n := by rfl) (h2 : s1.H = s.H := by rfl) : At b0 Mk ρ s1 w :=
  ⟨h2 ▸ h.h, fun i o hb => by
    have hb : s.blk i = some o := by simpa only [St.blk, h2] using hb
    rw [h1]; exact h.k i o hb, h2 ▸ h.wh⟩
theorem Gk.agree {σ : Au} {D' : List Deferred} {s1 : St} (he : Gk ρ D s a) (ha : Aj s.n ρ σ) (hn : s.n ≤ s1.n) (hN : s1.N = s.N) (hE : s1.E = s.E) (hD : D' = D) : Gk σ D' s1 a := by
  subst hD;exact ⟨by rw [hN, hE, ← Lv ha he.e]; exact he.h, by rw [hE]; exact he.e.mono hn, by rw [hE]; exact he.w⟩
theorem Fj.step (h : Fj c b0 Mk rd ρ s a w) {σ : Au} {s1 : St} {w1 : World} (ha : Aj s.n ρ σ) (hn : s.n ≤ s1.n) (hA : At b0 Mk σ s1 w1) (hN : s1.N = s.N) (hE : s1.E = s.E) (hms : s1.ms = s.ms) (hrd : s1.rd = s.rd) (hlo : s1.lo ≤ s1.n) : Fj c b0 Mk rd σ s1 a w1 :=
  ⟨hA, h.e.agree ha hn hN hE (by rw [hms]; exact List.map_congr_left fun m hm => by rw [ha.blk m (h.ms m hm)]), h.c.mono ha hn, by rw [hms]; exact fun m hm => Nat.lt_of_lt_of_le (h.ms m hm) hn, by rw [hrd]; exact h.rd, hlo⟩
theorem Fj.put (h : Fj c b0 Mk rd ρ s a w) {d : Option Nat} {v : V} {s1 : St} (hp : s.puto d v = some s1) (hv : v.lt s.n) : Fj c b0 Mk rd ρ s1 (a.put d (v.den ρ)) w := by
  cases d with
  | none =>
    have hp : some s = some s1 := hp;simp only [Option.some.injEq] at hp;subst hp; exact h
  | some d =>
    have hp : s.put d v = some s1 := hp;unfold St.put at hp;obtain ⟨hd, hp⟩ := Ch.1 hp;simp only [Option.some.injEq] at hp;subst hp;exact ⟨h.at_.cong, ⟨h.e.h.putV h.e.w hd, h.e.e.put hv, h.e.w.put⟩, h.c, h.ms, h.rd, h.lo⟩
theorem Ta (n : Nat) : Kq.lt n := by simp [Kq, V.lt]
theorem Mh (o : Oper) (a : Act) : execOp a.eval o = execOp a.eval (Bq o.op o.type) := by
  obtain ⟨dst, op, type, pos, after, guard⟩ := o;rw [Bi]
theorem Wm (hE : Gk ρ D s a) {ops : Array Oper} {o : Oper} {b : Bool} (h : nZ ops s o.guard = some b) : Region.wanted o (yielded ops a.tmps) = b := by
  unfold nZ at h;unfold Region.wanted;split at h
  · rename_i hg
    rw [hg];simp only [Option.some.injEq] at h;exact h
  · rename_i g hg
    rw [hg];obtain ⟨g, gb⟩ := g;simp only at h ⊢;split at h
    · rename_i o' ho'
      split at h
      · rename_i t ht
        have hgt : (ops[g]?).bind (·.dst) = some t := by rw [ho']; exact ht
        split at h
        · rename_i x hlt hl
          simp only [Option.some.injEq] at h;rw [Lb hE.h hgt (Iq hE.w hl) hlt];exact h
        · rename_i x hlt hl
          simp only [Option.some.injEq] at h;rw [Lb hE.h hgt (Iq hE.w hl) hlt];exact h
        · cases h
      · cases h
    · cases h
end
end Go.Proofs.YtbooaoddioibeaaGreatDoor.Jd

namespace Go.Proofs.YtbooaoddioibeaaGreatDoor.Jd
open Go.Proofs.Tryz
open Go.Proofs
open Go.RowKit (Below)
set_option linter.unusedVariables false
set_option linter.unusedSimpArgs false
def SoO (c : Dr) (e : Ev) : Prop := ∀ o s l, e.o o s = some l → ∀ (b0 : World) (Mk : List Nat) (rd : Option Nat) (ρ : Au) (a : Act) (w : World), (∀ k ∈ Mk, k < b0.heap.size) → Fj c b0 Mk rd ρ s a w →
  ∀ K : Act → World → Prop, (∀ s' ∈ l, ∀ σ a' w', Aj s.n ρ σ → s.n ≤ s'.n → Fj c b0 Mk rd σ s' a' w' → K a' w') → o.wpIn (FW rd) 0 c.P a w K (nQ fun _ _ => False)
section
variable {c : Dr} {e : Ev} {b0 : World} {Mk : List Nat} {rd : Option Nat} {ρ : Au} {s : St} {a : Act} {w : World}
theorem oY (ho : SoO c e) (hM : ∀ k ∈ Mk, k < b0.heap.size) {ops : Array Oper} {T : Act → World → Prop} : ∀ {os : List Oper} {s : St} {ρ : Au} {a : Act} {w : World} {l : List St}, xL e ops os s = some l → Fj c b0 Mk rd ρ s a w →
    (∀ s' ∈ l, ∀ σ a' w', Aj s.n ρ σ → s.n ≤ s'.n → Fj c b0 Mk rd σ s' a' w' → T a' w') → Pk c.P rd ops T os a w
  | [], s, ρ, a, w, l, h, hi, hT => by
    have h : some [s] = some l := h;simp only [Option.some.injEq] at h;subst h;exact hT s List.mem_cons_self ρ a w (Aj.refl _ _) (Nat.le_refl _) hi
  | o :: os, s, ρ, a, w, l, h, hi, hT => by
    have h : xOp e ops o (xL e ops os) s = some l := h;unfold xOp at h;unfold Pk;split at h
    · cases h
    · rename_i hw
      rw [if_neg (by rw [Wm hi.e hw]; exact Bool.noConfusion)];obtain ⟨s1, h1, h2⟩ := Ba.1 h;have hi1 := hi.put h1 (Ta _);have hn : s1.n = s.n := by
        unfold St.puto at h1;cases hd : o.dst with
        | none => rw [hd] at h1; simp only [Se, Option.some.injEq] at h1; rw [h1]
        | some d =>
          rw [hd] at h1;unfold St.put at h1;simp only [Iy] at h1;obtain ⟨_, h1⟩ := Ch.1 h1;simp only [Option.some.injEq] at h1;rw [← h1]
      exact oY ho hM h2 hi1 (fun s' hs σ a' w' g1 g2 g3 => hT s' hs σ a' w' (hn ▸ g1) (hn ▸ g2) g3)
    · rename_i hw
      rw [if_pos (Wm hi.e hw)];obtain ⟨l1, h1, h2, _⟩ := Cl h;refine ho o s l1 h1 b0 Mk rd ρ a w hM hi _ (fun s1 m9 σ a' w' g1 g2 g3 => ?_);obtain ⟨rx, k1, k2⟩ := h2 s1 m9;exact oY ho hM k1 g3 (fun s' hs τ a2 w2 j1 j2 j3 => hT s' (k2 s' hs) τ a2 w2 (g1.trans j1 g2) (Nat.le_trans g2 j2) j3)

/-- What holds of a state but for the world. -/
structure IS (c : Dr) (b0 : World) (Mk : List Nat) (rd : Option Nat) (ρ : Au) (s : St) (a : Act) : Prop where
  k : Wd s
  wh : WH s.H
  e : Gk ρ (s.ms.map fun m => Qj (ρ.blk m)) s a
  c : Yv c b0 Mk ρ s.n
  ms : ∀ m ∈ s.ms, m < s.n
  rd : s.rd = false → rd = none
  lo : s.lo ≤ s.n
structure IW (b0 : World) (Mk : List Nat) (ρ : Au) (s : St) (K : List Nat) (w : World) : Prop where
  h : ∃ L, Na ρ s.H.toList L ∧ SH b0 Mk L w ∧ ∀ p ∈ L, p.1 ∈ K
  k : ∀ k ∈ K, k < w.heap.size
theorem IS.inv {K : List Nat} (h : IS c b0 Mk rd ρ s a) (hw : IW b0 Mk ρ s K w) : Fj c b0 Mk rd ρ s a w := by
  obtain ⟨L, h1, h2, _⟩ := hw.h;exact ⟨⟨⟨L, h1, h2⟩, h.k, h.wh⟩, h.e, h.c, h.ms, h.rd, h.lo⟩
theorem Fj.is (h : Fj c b0 Mk rd ρ s a w) : IS c b0 Mk rd ρ s a := ⟨h.at_.k, h.at_.wh, h.e, h.c, h.ms, h.rd, h.lo⟩
theorem SH.alloc' {L : Ad} (h : SH b0 Mk L w) (hM : ∀ k ∈ Mk, k < b0.heap.size) (o : Obj) : SH b0 Mk L (w.alloc o) := (h.alloc o hM).sub (List.sublist_cons_self _ _)
theorem IW.still (hM : ∀ k ∈ Mk, k < b0.heap.size) (K : List Nat) : Ge (IW b0 Mk ρ s K) := fun w o h => by
  obtain ⟨L, h1, h2, h3⟩ := h.h;exact ⟨⟨L, h1, h2.alloc' hM o, h3⟩, fun k hk => by have := h.k k hk; simp; omega⟩
theorem Rd.still (hM : ∀ k ∈ Mk, k < b0.heap.size) (hk : Wd s) (rs : List RE) : Ge (Rd b0 Mk ρ s rs) := fun w o h => by
  refine ⟨h.b.alloc' hM o, fun e he o' ho' => ?_⟩;have := h.r e he o' ho';split
  · rename_i h0
    rw [if_pos h0] at this;obtain ⟨B, h1, h2⟩ := this;exact ⟨B, h1, h2.alloc' hM o⟩
  · rename_i h0
    rw [if_neg h0] at this;intro l t f e' j v hj1 hj2 hn;have hc := this l t f e' j v hj1 hj2 hn;unfold World.cell? at *;simp only at *;rw [Below.heap_alloc w o (ρ.blk e.1) ?_]
    · exact hc
    · cases hh : w.heap[ρ.blk e.1]? with
      | none => rw [hh] at hc; simp at hc
      | some x => exact (Array.getElem?_eq_some_iff.1 hh).1
theorem Rd.back {σ : Au} {sq : St} {rs : List RE} (hA : Aj sq.n ρ σ) (hk : Wd sq) (hf : ∀ r ∈ rs, fG sq s r) (h : Rd b0 Mk σ s rs w) : Rd b0 Mk ρ sq rs w := by
  refine ⟨h.b, fun r hr o ho => ?_⟩;obtain ⟨hi, hl⟩ := hk _ _ ho;have h1 := hf r hr o ho;split
  · rename_i h0
    rw [if_pos h0] at h1;have := h.r r hr o h1;rw [if_pos h0] at this;obtain ⟨B, g1, g2⟩ := this;exact ⟨B, O.is_agree hA.symm hi hl g1, g2⟩
  · rename_i h0
    rw [if_neg h0] at h1;intro l t f e j v hj1 hj2 hn;obtain ⟨l', g1, g2⟩ := h1 l t f e;have := h.r r hr _ g1;rw [if_neg h0] at this;have hc := this l' t f rfl j v hj1 hj2 (g2 j v hj1 hj2 hn);subst e;rw [hA.blk _ hi, Gw hA v (dJ hl hn)];exact hc
theorem dU {α : Type} {p : α → Bool} : ∀ {l : List α}, (Fy l true fun x _ ih => Be (p x) ih false) = true → ∀ x ∈ l, p x = true
  | [], _, x, hx => by cases hx
  | y :: l, h, x, hx => by
    have h : Be (p y) (Fy l true fun x _ ih => Be (p x) ih false) false = true := h;cases hy : p y with
    | false => rw [hy, Ft] at h; cases h
    | true =>
      rw [hy, Iz] at h;rcases List.mem_cons.1 hx with rfl | hx
      · exact hy
      · exact dU h x hx
theorem wQ {α : Type} {p : α → Bool} {b : Bool} : ∀ {l : List α}, (Fy l true fun x _ ih => Be (p x) ih (Be b ih false)) = true → ∀ x ∈ l, p x = true ∨ b = true
  | [], _, x, hx => by cases hx
  | y :: l, h, x, hx => by
    have h : Be (p y) (Fy l true fun x _ ih => Be (p x) ih (Be b ih false)) (Be b (Fy l true fun x _ ih => Be (p x) ih (Be b ih false)) false) = true := h;cases hb : b with
    | true => exact .inr rfl
    | false =>
      subst hb;cases hy : p y with
      | false => rw [hy, Ft, Ft] at h; cases h
      | true =>
        rw [hy, Iz] at h;rcases List.mem_cons.1 hx with rfl | hx
        · exact .inl hy
        · exact wQ h x hx
theorem iU {ops : Array Oper} {q : Nat} {rs : List RE} {ws : List (Nat × List RE)} (h : lE ops q rs ws = true) : ∀ r ∈ rs, ∀ u ∈ ws, ∀ x ∈ u.2, Ja r x = true ∨ Uf ops u.1 q = true := fun r hr u hu x hx => by
  unfold lE at h;have h1 := dU (p := fun r => Fy ws true fun w _ ih => Be (Fy w.2 true fun x _ ih => Be (Ja r x) ih (Be (Uf ops w.1 q) ih false)) ih false) h r hr;have h2 := dU (p := fun w : Nat × List RE => Fy w.2 true fun x _ ih => Be (Ja r x) ih (Be (Uf ops w.1 q) ih false)) h1 u hu;exact wQ (p := fun x => Ja r x) h2 x hx
def F8 (ops : Array Oper) (b0 : World) (Mk : List Nat) (ρ : Au) (s : St) (ws : List (Nat × List RE)) (F : Fs) : Prop :=
  ∀ p ∈ F, ∃ ρq sq rs, p.2 = Rd b0 Mk ρq sq rs ∧ sq.n ≤ s.n ∧ Aj sq.n ρq ρ ∧ Wd sq ∧ (∀ r ∈ rs, fG sq s r) ∧ ∀ r ∈ rs, ∀ u ∈ ws, ∀ x ∈ u.2, Ja r x = true ∨ Uf ops u.1 p.1 = true
theorem F8.still {ops : Array Oper} {ws : List (Nat × List RE)} {F : Fs} (hM : ∀ k ∈ Mk, k < b0.heap.size) (h : F8 ops b0 Mk ρ s ws F) : ∀ p ∈ F, Ge p.2 := fun p hp => by
  obtain ⟨ρq, sq, rs, e, _, _, hk, _⟩ := h p hp;rw [e]; exact Rd.still hM hk rs
theorem F8.at {ops : Array Oper} {ws : List (Nat × List RE)} {F : Fs} (h : F8 ops b0 Mk ρ s ws F) (hA : At b0 Mk ρ s w) : ∀ p ∈ F, p.2 w := fun p hp => by
  obtain ⟨ρq, sq, rs, e, _, ha, hk, hf, _⟩ := h p hp;rw [e]; exact Rd.back ha hk hf (hA.rd rs)
theorem F8.move {ops : Array Oper} {ws : List (Nat × List RE)} {F : Fs} {σ : Au} {s1 : St} (h : F8 ops b0 Mk ρ s ws F) (ha : Aj s.n ρ σ) (hn : s.n ≤ s1.n) (hf : ∀ i, i < s.n → ∀ o, s.blk i = some o → s1.blk i = some o) : F8 ops b0 Mk σ s1 ws F := fun p hp => by
  obtain ⟨ρq, sq, rs, e, h1, h2, h3, h4, h5⟩ := h p hp;refine ⟨ρq, sq, rs, e, Nat.le_trans h1 hn, h2.trans ha h1, h3, fun r hr o ho => ?_, h5⟩;have hi := (h3 _ _ ho).1;exact ((h4 r hr).trans (fG.same fun o' ho' => hf r.1 z6 o' ho')) o ho
def YOk (ops : Array Oper) (ρ : Au) (n : Nat) (ys : An) (Y : List Fl) : Prop :=
  ∀ y ∈ Y, ops[y.i]? = some y.o ∧ ∃ o f ρ0 n0, vD y.i ys = some (o, f) ∧ n0 ≤ n ∧ Aj n0 ρ0 ρ ∧ (∀ σ m, n0 ≤ m → Aj n0 ρ0 σ → o.is σ m [(σ.blk m, y.obj)]) ∧ (∀ (σ : Au) m, (f m).den σ = y.val (σ.blk m)) ∧ o.lt n0 ∧ ∀ m, (f m).lt (m + 1)
theorem YOk.move {ops : Array Oper} {n m : Nat} {ys : An} {Y Y' : List Fl} {σ : Au} (h : YOk ops ρ n ys Y) (ha : Aj n ρ σ) (hn : n ≤ m) (hs : ∀ y ∈ Y', y ∈ Y) : YOk ops σ m ys Y' := fun y hy => by
  obtain ⟨h0, o, f, ρ0, n0, h1, h2, h3, h4⟩ := h y (hs y hy);exact ⟨h0, o, f, ρ0, n0, h1, Nat.le_trans h2 hn, h3.trans ha h2, h4⟩
theorem Hr {P : Program} {ops : Array Oper} {T : Act → World → Prop} {m0 : Nat} : ∀ {pl : List (PK × Nat)} {I I' : World → Prop} {K : List Nat} {Y : List Fl} {F : Fs} {a : Act}, (∀ w, I' w → I w) → yO P rd ops m0 T pl I K Y F a → yO P rd ops m0 T pl I' K Y F a
  | [], I, I', K, Y, F, a, hI, h => ⟨h.1, fun w hw => h.2 w (hI w hw)⟩
  | (.q, i) :: r, I, I', K, Y, F, a, hI, h => fun o ho => by
    obtain ⟨v, S, h1, h2, h3, h4⟩ := h o ho;exact ⟨v, S, h1, fun w hw => h2 w (hI w hw), h3, Hr hI h4⟩
  | (.a, i) :: r, I, I', K, Y, F, a, hI, h => fun o ho => by
    obtain ⟨obj, val, h1, h2⟩ := h o ho;exact ⟨obj, val, h1, Hr hI h2⟩
  | (.l, i) :: r, I, I', K, Y, F, a, hI, h => fun o ho => by
    have h := h o ho;split
    · rename_i hw
      rw [if_pos hw] at h;exact fun w hw hF => h w (hI w hw) hF
    · rename_i hw
      rw [if_neg hw] at h;exact Hr hI h
  | (.f, i) :: r, I, I', K, Y, F, a, hI, h => by
    obtain ⟨y, h1, h2, h3⟩ := h;exact ⟨y, h1, h2, fun b hb hm w hw ho => Hr (fun w hw => ⟨hI w hw.1, hw.2⟩) (h3 b hb hm w (hI w hw) ho)⟩
end
end Go.Proofs.YtbooaoddioibeaaGreatDoor.Jd

namespace Go.Proofs.YtbooaoddioibeaaGreatDoor.Jd
open Go.Proofs.Tryz
open Go.Proofs
open Go.RowKit (Below)
set_option linter.unusedVariables false
set_option linter.unusedSimpArgs false
section
variable {c : Dr} {e : Ev} {b0 : World} {Mk : List Nat} {rd : Option Nat} {ρ : Au} {s : St} {a : Act} {w : World}
theorem Ha {d : Option Nat} {v : V} {s1 : St} (h : s.puto d v = some s1) : s1.n = s.n ∧ s1.H = s.H := by
  unfold St.puto at h;cases d with
  | none => simp only [Se, Option.some.injEq] at h; subst h; exact ⟨rfl, rfl⟩
  | some d =>
    simp only [Iy, St.put] at h;obtain ⟨_, h⟩ := Ch.1 h;simp only [Option.some.injEq] at h;subst h; exact ⟨rfl, rfl⟩
theorem Tb {s1 : St} (h : s1.H = s.H) (i : Nat) : s1.blk i = s.blk i := by simp only [St.blk, h]
theorem IS.put (h : IS c b0 Mk rd ρ s a) {d : Option Nat} {v : V} {s1 : St} (hp : s.puto d v = some s1) (hv : v.lt s.n) : IS c b0 Mk rd ρ s1 (a.put d (v.den ρ)) := by
  cases d with
  | none =>
    have hp : some s = some s1 := hp;simp only [Option.some.injEq] at hp;subst hp; exact h
  | some d =>
    have hp : s.put d v = some s1 := hp;unfold St.put at hp;obtain ⟨hd, hp⟩ := Ch.1 hp;simp only [Option.some.injEq] at hp;subst hp;exact ⟨h.k, h.wh, ⟨h.e.h.putV h.e.w hd, h.e.e.put hv, h.e.w.put⟩, h.c, h.ms, h.rd, h.lo⟩
theorem IW.cong {s1 : St} {K : List Nat} (h : IW b0 Mk ρ s K w) (h2 : s1.H = s.H) : IW b0 Mk ρ s1 K w := ⟨by rw [h2]; exact h.h, h.k⟩
theorem dV {o o' : O} {i j : Nat} (hw : WH s.H) (h : St.blk { s with n := s.n + 1, H := s.H.set (i, o) (i + 1) } j = some o') : (j = i ∧ o' = o) ∨ (j ≠ i ∧ s.blk j = some o') := by
  by_cases e : j = i
  · subst e;simp only [St.blk] at h;rw [T.get_set _ _ _ _ z6, if_pos rfl] at h;simp only [Sd, Option.some.injEq] at h;exact .inl ⟨rfl, h.symm⟩
  · rw [show ({ s with n := s.n + 1, H := s.H.set (i, o) (i + 1) } : St).blk j = s.blk j from Pz (wr := s.wr) e] at h;exact .inr ⟨e, h⟩
theorem IS.new (h : IS c b0 Mk rd ρ s a) (b : Nat) {o : O} (hl : o.lt s.n) : IS c b0 Mk rd (ρ.upd s.n b default default) { s with n := s.n + 1, H := s.H.set (s.n, o) (s.n + 1) } a := by
  have hag := Au.agree_upd ρ s.n b default default;refine ⟨fun i o' hb => ?_, h.wh.set _ _, h.e.agree hag (Nat.le_succ _) rfl rfl (List.map_congr_left fun m hm => by rw [hag.blk m (h.ms m hm)]), h.c.mono hag (Nat.le_succ _), fun m hm => Nat.lt_succ_of_lt (h.ms m hm), h.rd, Nat.le_succ_of_le h.lo⟩;rcases dV h.wh hb with ⟨rfl, rfl⟩ | ⟨_, hb⟩
  · exact ⟨Nat.lt_succ_self _, O.lt.mono (Nat.le_succ _) hl⟩
  · obtain ⟨k1, k2⟩ := h.k i o' hb;exact ⟨Nat.lt_succ_of_lt k1, O.lt.mono (Nat.le_succ _) k2⟩
theorem dW (hk : Wd s) (hw : WH s.H) : ∀ p ∈ s.H.toList, p.1 < s.n ∧ p.2.lt s.n := fun p hp => by
  obtain ⟨k, _, hk'⟩ := T.mem_get hp;have := hw _ _ hk';subst this;obtain ⟨p1, p2⟩ := p;exact hk p1 p2 (Md hk')
theorem IW.disc {K : List Nat} {b : Nat} {obj : Obj} {o : O} (h : IW b0 Mk ρ s K w) (hk : Wd s) (hwh : WH s.H) (hb : w.heap[b]? = some obj) (hbK : b ∉ K) (hb0 : b0.heap.size ≤ b) (hi : o.is (ρ.upd s.n b default default) s.n [(b, obj)]) :
    IW b0 Mk (ρ.upd s.n b default default) { s with n := s.n + 1, H := s.H.set (s.n, o) (s.n + 1) } (b :: K) w := by
  have hag := Au.agree_upd ρ s.n b default default;obtain ⟨L, g1, g2, g3⟩ := h.h;obtain ⟨R, r1, r2⟩ := T.perm_set (s.n, o) s.H (s.n + 1) z6;have hall := dW hk hwh;have hn : s.H.get (s.n + 1) = none := by
    cases hg : s.H.get (s.n + 1) with
    | none => rfl
    | some p =>
      have hp := hall p (T.get_mem hg);have := hwh _ _ hg;omega
  rw [hn] at r2;simp only [Option.toList_none, List.nil_append] at r2;obtain ⟨L', g4, g5⟩ := g1.perm r2;have g6 := g4.agree hag (fun p hp => hall p (r2.mem_iff.2 hp));obtain ⟨L2, g7, g8⟩ := (Na.cons (p := (s.n, o)) hi g6).perm r1.symm;have hS : SH b0 Mk ((b, obj) :: L) w := by
    refine ⟨g2.os, g2.tape, g2.output, g2.size, g2.same, fun p hp => ?_, fun p hp => ?_, ?_⟩
    · rcases List.mem_cons.1 hp with rfl | hp
      · exact hb
      · exact g2.own p hp
    · rcases List.mem_cons.1 hp with rfl | hp
      · exact .inr hb0
      · exact g2.key p hp
    · simp only [List.map_cons, List.nodup_cons];refine ⟨fun hm => ?_, g2.nd⟩;obtain ⟨p, hp, e⟩ := List.mem_map.1 hm;exact hbK (e ▸ g3 p hp)
  have hp8 : List.Perm ((b, obj) :: L) L2 := (List.Perm.cons _ g5).trans g8;refine ⟨⟨L2, g7, hS.perm hp8, fun p hp => ?_⟩, fun k hk' => ?_⟩
  · rcases List.mem_cons.1 (hp8.mem_iff.2 hp) with rfl | hp
    · exact List.mem_cons_self
    · exact List.mem_cons_of_mem _ (g3 p hp)
  · rcases List.mem_cons.1 hk' with rfl | hk'
    · exact (Array.getElem?_eq_some_iff.1 hb).1
    · exact h.k k hk'
theorem Ye (ho : SoO c e) (hf : dR e) (hM : ∀ k ∈ Mk, k < b0.heap.size) {ops : Array Oper} {g n : Nat} {T : Act → World → Prop} : ∀ {pl : List (PK × Nat)} {ys : An} {s : St} {ρ : Au} {a : Act} {K : List Nat} {Y : List Fl} {F : Fs} {Lp : Array Bool} {x : St × List (Nat × List RE)},
    xD c e ops pl ys s = some x → Cg ops g n pl Lp (Y.map Fl.i) = true → IS c b0 Mk rd ρ s a → (∃ w, IW b0 Mk ρ s K w) → F8 ops b0 Mk ρ s x.2 F → YOk ops ρ s.n ys Y →
    (∀ σ a' w', Aj s.n ρ σ → s.n ≤ x.1.n → Fj c b0 Mk rd σ x.1 a' w' → T a' w') → yO c.P rd ops b0.heap.size T pl (IW b0 Mk ρ s K) K Y F a
  | [], ys, s, ρ, a, K, Y, F, Lp, x, h, hB, hi, hw0, hF, hY, hT => by
    have h : some (s, []) = some x := h;simp only [Option.some.injEq] at h;subst h;simp only [Cg, Bool.and_eq_true, List.isEmpty_iff, List.map_eq_nil_iff] at hB;exact ⟨hB.1, fun w hw => hT ρ a w (Aj.refl _ _) (Nat.le_refl _) (hi.inv hw)⟩
  | (k, i) :: r, ys, s, ρ, a, K, Y, F, Lp, x, h, hB, hi, hw0, hF, hY, hT => by
    have h : xDo c e ops (k, i) (xD c e ops r) ys s = some x := h;unfold xDo at h;split at h
    · cases h
    · rename_i o hio
      simp only at hio;split at h
      · -- a new block's place
        rename_i hk
        simp only at hk;subst hk;unfold xDf at h;obtain ⟨p, hp, h⟩ := Ba.1 h;obtain ⟨s1, h1, h⟩ := Ba.1 h;obtain ⟨s2, h2, h⟩ := Ba.1 h;have hx : xD c e ops r ys s2 = some x := h;simp only [Cg, Bool.and_eq_true, List.contains_eq_mem, decide_eq_true_eq] at hB;obtain ⟨⟨hin, _⟩, hB⟩ := hB;obtain ⟨y, hy, rfl⟩ := List.mem_map.1 hin;obtain ⟨hyo, o', f', ρ0, n0, hfa, hn0, hag0, his, hden, hol, hfl⟩ := hY y hy;have e1 : y.o = o := Option.some.inj (hyo.symm.trans hio);have e2 : p = (o', f') := Option.some.inj (hp.symm.trans hfa);subst e1 e2;dsimp only at h1 h2;have h1 : some { s with n := s.n + 1, H := s.H.set (s.n, o') (s.n + 1) } = some s1 := h1;simp only [Option.some.injEq] at h1;subst h1;refine ⟨y, hy, rfl, fun b hb hm w0 hwI hwb => ?_⟩;have hag := Au.agree_upd ρ s.n b default default;have hbb : (ρ.upd s.n b default default).blk s.n = b := by simp [Au.upd]
        have hi1 := hi.new b (O.lt.mono hn0 hol);have hi2 := hi1.put h2 (hfl s.n);obtain ⟨n2, H2⟩ := Ha h2;have hv : (f' s.n).den (ρ.upd s.n b default default) = y.val b := by rw [hden, hbb]
        rw [hv] at hi2;have hmap : ((Y.filter fun z => ! Nat.beq z.i y.i).map Fl.i) = (Y.map Fl.i).filter fun j => ! Nat.beq j y.i := by
          rw [List.filter_map]; rfl
        rw [← hmap] at hB;have hcong : ∀ w, IW b0 Mk ρ s K w ∧ w.heap[b]? = some y.obj → IW b0 Mk (ρ.upd s.n b default default) s2 (b :: K) w := fun w hw => by
          refine IW.cong (hw.1.disc hi.k hi.wh hw.2 hb hm ?_) H2;have := his (ρ.upd s.n b default default) s.n hn0 (hag0.trans hag hn0);rw [hbb] at this;exact this
        refine Hr (I := IW b0 Mk (ρ.upd s.n b default default) s2 (b :: K)) hcong (Ye ho hf hM hx hB hi2 ⟨w0, hcong w0 ⟨hwI, hwb⟩⟩ (hF.move hag (by rw [n2]; exact Nat.le_succ _) fun j hj o'' ho'' => ?_) (hY.move hag (by rw [n2]; exact Nat.le_succ _) fun z hz => (List.mem_filter.1 hz).1) fun σ a' w' g1 g2 g3 => ?_)
        · rw [Tb H2];rw [show ({ s with n := s.n + 1, H := s.H.set (s.n, o') (s.n + 1) } : St).blk j = s.blk j from Pz (wr := s.wr) z6];exact ho''
        · rw [n2] at g1 g2;exact hT σ a' w' (hag.trans ⟨fun i hi => g1.blk i (Nat.lt_succ_of_lt hi), fun i hi => g1.own i (Nat.lt_succ_of_lt hi), fun i hi => g1.lp i (Nat.lt_succ_of_lt hi), g1.iv, g1.sv⟩ (Nat.le_refl _)) (Nat.le_of_succ_le g2) g3
      · rename_i hk
        split at h
        · cases h
        · -- not wanted
          rename_i hw
          have hwant := Wm hi.e hw;have hq : k = .q ∨ k = .l := by cases k <;> first | exact .inl rfl | exact .inr rfl | (cases h; done) | exact absurd rfl hk
          have h' : one (s.puto o.dst Kq) (xD c e ops r ys) = some x := by
            rcases hq with rfl | rfl <;> exact h
          obtain ⟨s1, h1, h2⟩ := Ba.1 h';obtain ⟨n1, H1⟩ := Ha h1;have hi1 := hi.put h1 (Ta _);have hT1 : ∀ σ a' w', Aj s1.n ρ σ → s1.n ≤ x.1.n → Fj c b0 Mk rd σ x.1 a' w' → T a' w' := fun σ a' w' g1 g2 g3 => hT σ a' w' (n1 ▸ g1) (n1 ▸ g2) g3
          have n7 := hF.move (s1 := s1) (Aj.refl _ _) (by rw [n1]; exact Nat.le_refl _) fun j _ o'' ho'' => by rw [Tb H1]; exact ho''
          have hY1 := hY.move (m := s1.n) (Aj.refl _ _) (by rw [n1]; exact Nat.le_refl _) fun z hz => hz
          have hIW : ∀ w, IW b0 Mk ρ s K w → IW b0 Mk ρ s1 K w := fun w hw => hw.cong H1
          rcases hq with rfl | rfl
          · simp only [Cg, Bool.and_eq_true] at hB;intro o1 d7;have : o1 = o := Option.some.inj (d7.symm.trans hio);subst this;refine ⟨undef, Rd b0 Mk ρ s [], .inr ⟨hwant, rfl⟩, fun w hw => (hi.inv hw).at_.rd _, Rd.still hM hi.k _, Hr hIW (Ye ho hf hM h2 hB.2 hi1 ⟨_, hIW _ hw0.choose_spec⟩ (fun p hp => ?_) hY1 hT1)⟩;rcases List.mem_cons.1 hp with rfl | hp
            · exact ⟨ρ, s, [], rfl, by rw [n1]; exact Nat.le_refl _, Aj.refl _ _, hi.k, fun r hr => (by cases hr), fun r hr => by cases hr⟩
            · exact n7 p hp
          · simp only [Cg, Bool.and_eq_true] at hB;intro o1 d7;have : o1 = o := Option.some.inj (d7.symm.trans hio);subst this;rw [if_neg (by rw [hwant]; exact Bool.noConfusion)];exact Hr hIW (Ye ho hf hM h2 hB.2 hi1 ⟨_, hIW _ hw0.choose_spec⟩ n7 hY1 hT1)
        · rename_i hw
          have hwant := Wm hi.e hw;split at h
          · -- quiet
            rename_i hk2
            simp only at hk2;subst hk2;unfold xDq at h;obtain ⟨q, hq, h⟩ := Ba.1 h;obtain ⟨s1, h1, h⟩ := Ba.1 h;obtain ⟨x1, h2, h⟩ := Ba.1 h;obtain ⟨hap, h⟩ := Ch.1 h;simp only [Option.some.injEq] at h;subst h;obtain ⟨n1, H1⟩ := Ha h1;simp only [Cg, Bool.and_eq_true] at hB;intro o1 d7;have : o1 = o := Option.some.inj (d7.symm.trans hio);subst this;have hQ : ∀ w, Rd b0 Mk ρ s q.2 w → Yw c.P ρ s.n a w o1.op o1.type q.1 := fun w hr => wF (v := q.1) (rs := q.2) hi.c hi.k hi.e hq hr
            obtain ⟨w0, hwI⟩ := hw0;have hl : V.lt s.n q.1 := (hQ w0 ((hi.inv hwI).at_.rd _)).2;refine ⟨q.1.den ρ, Rd b0 Mk ρ s q.2, .inl ⟨hwant, fun w hr => by rw [Mh]; exact (hQ w hr).1⟩, fun w hw => (hi.inv hw).at_.rd _, Rd.still hM hi.k _, ?_⟩;refine Hr (fun w hw => hw.cong H1) (Ye ho hf hM h2 hB.2 (hi.put h1 hl) ⟨w0, hwI.cong H1⟩ (fun p hp => ?_) (hY.move (m := s1.n) (Aj.refl _ _) (by rw [n1]; exact Nat.le_refl _) fun z hz => hz) fun σ a' w' g1 g2 g3 => hT σ a' w' (n1 ▸ g1) (n1 ▸ g2) g3);rcases List.mem_cons.1 hp with rfl | hp
            · exact ⟨ρ, s, q.2, rfl, by rw [n1]; exact Nat.le_refl _, Aj.refl _ _, hi.k, fun r hr => fG.same fun o'' ho'' => (by rw [Tb H1]; exact ho''), iU hap⟩
            · exact hF.move (s1 := s1) (Aj.refl _ _) (by rw [n1]; exact Nat.le_refl _) (fun j _ o'' ho'' => by rw [Tb H1]; exact ho'') p hp
          · -- one at a time
            rename_i hk2
            simp only at hk2;subst hk2;unfold xDl at h;split at h
            · rename_i s1 h1
              obtain ⟨x1, h2, h⟩ := Ba.1 h;simp only [Option.some.injEq] at h;subst h;simp only [Cg, Bool.and_eq_true] at hB;intro o1 d7;have : o1 = o := Option.some.inj (d7.symm.trans hio);subst this;rw [if_pos hwant];intro w hw hFw;obtain ⟨⟨L, hL1, hL2, hL3⟩, hK⟩ := hw;have hM1 : ∀ k ∈ keys L, k < w.heap.size := fun k hk => by
                obtain ⟨o', ho'⟩ := Cb hk;exact hL2.lt ho'
              have hself : SH w (keys L) L w := ⟨rfl, rfl, rfl, Nat.le_refl _, fun _ _ _ => rfl, hL2.own, fun p hp => .inl (Dn hp), hL2.nd⟩
              have hc1 : Yv c w (keys L) ρ s.n := ⟨hi.c.v, fun p hp => by
                obtain ⟨⟨t, f, hb⟩, hMn, hl⟩ := hi.c.g p hp;refine ⟨⟨t, f, hL2.base hb hMn⟩, fun hk => ?_, hl⟩;obtain ⟨o', ho'⟩ := Cb hk;rcases hL2.key _ ho' with h | h
                · exact hMn h
                · have := (Array.getElem?_eq_some_iff.1 hb).1;simp only at h;omega⟩
              have hinv : Fj c w (keys L) rd ρ { s with lo := s.n, wr := [] } a w := ⟨(⟨⟨L, hL1, hself⟩, hi.k, hi.wh⟩ : At w (keys L) ρ s w).cong, ⟨hi.e.h, hi.e.e, hi.e.w⟩, hc1, hi.ms, hi.rd, Nat.le_refl _⟩
              have hfr := hf.o _ _ _ h1 (Nat.le_refl _) s1 List.mem_cons_self;refine ho o1 _ _ h1 w (keys L) rd ρ a w hM1 hinv _ (fun s' hs' σ a' w' g1 g2 g3 => ?_);simp only [List.mem_singleton] at hs';subst hs';obtain ⟨L', k1, k2⟩ := g3.at_.h;have htr : Tr w w' L L' := SH.tr_out k2;have hS : SH b0 Mk L' w' := by
                have := SH.tr (H := L) (H' := L') (L := []) (by simpa using hL2) htr;simpa using this
              have hi' : IS c b0 Mk rd σ (Xw s s') a' := ⟨g3.at_.k, g3.at_.wh, ⟨g3.e.h, g3.e.e, g3.e.w⟩, hi.c.mono g1 g2, g3.ms, g3.rd, Nat.le_trans hi.lo g2⟩
              have hF' : F8 ops b0 Mk σ (Xw s s') x1.2 (F.filter fun p => ! Uf ops i p.1) := fun p hp => by
                obtain ⟨hp, hd⟩ := List.mem_filter.1 hp;obtain ⟨ρq, sq, rs, e0, j1, j2, j3, j4, j5⟩ := hF p hp;refine ⟨ρq, sq, rs, e0, Nat.le_trans j1 g2, j2.trans g1 j1, j3, fun r hr o'' ho'' => ?_, fun r hr u hu => j5 r hr u (List.mem_cons_of_mem _ hu)⟩;have hlt := (j3 _ _ ho'').1;have hfr2 : fG s (Xw s s') r := hfr.2.2.2 r (show r.1 < s.n by omega) fun x hx => (j5 r hr (i, s'.wr) List.mem_cons_self x hx).resolve_right (by simp only; intro hh; rw [hh] at hd; cases hd)
                exact ((j4 r hr).trans hfr2) o'' ho''
              have hIW : IW b0 Mk σ (Xw s s') (keys L') w' := ⟨⟨L', k1, hS, fun p hp => Dn hp⟩, fun k hk => by
                obtain ⟨o', ho'⟩ := Cb hk;exact hS.lt ho'⟩
              have hat := (hi'.inv hIW).at_;refine ⟨k2.size, fun k hk hkK => k2.same k hk fun hm => ?_, IW b0 Mk σ (Xw s s') (keys L'), keys L', F.filter fun p => ! Uf ops i p.1, hIW, IW.still hM _, fun k hk => ?_, fun w2 hw2 => ⟨?_, hw2.k⟩, fun p hp hd => List.mem_filter.2 ⟨hp, by rw [hd]; rfl⟩, fun p hp => ⟨hF'.at hat p hp, hF'.still hM p hp⟩, ?_⟩
              · obtain ⟨o', ho'⟩ := Cb hm;exact hkK (hL3 _ ho')
              · obtain ⟨o', ho'⟩ := Cb hk;rcases k2.key _ ho' with h | h
                · obtain ⟨o2, b8⟩ := Cb h;exact .inl (hL3 _ b8)
                · exact .inr h
              · obtain ⟨L2, _, q2, _⟩ := hw2.h;exact q2.size
              · exact Ye ho hf hM h2 hB.2 hi' ⟨w', hIW⟩ hF' (hY.move g1 g2 fun z hz => hz) fun τ a2 w2 l1 l2 l3 => hT τ a2 w2 (g1.trans l1 g2) (Nat.le_trans g2 l2) l3
            · cases h
          · -- announced
            rename_i hk2 hk3
            have hk4 : k = .a := by cases k <;> first | rfl | exact absurd rfl hk | exact absurd rfl hk2 | exact absurd rfl hk3
            subst hk4;obtain ⟨q, hq, h⟩ := Ba.1 h;have hx : xD c e ops r ((i, q) :: ys) s = some x := h;simp only [Cg, Bool.and_eq_true, Bool.not_eq_true', List.contains_eq_mem, decide_eq_false_iff_not] at hB;intro o1 d7;have : o1 = o := Option.some.inj (d7.symm.trans hio);subst this;obtain ⟨⟨obj, val, r1, r2, r3⟩, hol, hfl⟩ := wI (ty := o1.type) hi.e (o := q.1) (f := q.2) hq;refine ⟨obj, val, ⟨hwant, fun w => by rw [Mh]; exact r1 w⟩, Ye ho hf hM hx hB.2 hi hw0 hF (fun y hy => ?_) hT⟩;rcases List.mem_cons.1 hy with rfl | hy
            · refine ⟨hio, q.1, q.2, ρ, s.n, ?_, Nat.le_refl _, Aj.refl _ _, r2, r3, hol, hfl⟩;show Be (Nat.beq i i) (some q) _ = _
              rw [Nat.beq_refl]; rfl
            · obtain ⟨j0, o', f', ρ0, n0, j1, j2⟩ := hY y hy;refine ⟨j0, o', f', ρ0, n0, ?_, j2⟩;have hne : i ≠ y.i := fun e => hB.1.2 (List.mem_map.2 ⟨y, hy, e.symm⟩)
              show Be (Nat.beq i y.i) (some q) (vD y.i ys) = _
              rw [rF hne]; exact j1
end
end Go.Proofs.YtbooaoddioibeaaGreatDoor.Jd

