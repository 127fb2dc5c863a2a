/- Part of the proofs of this seat: walks and plain facts. No condition. -/
import Derived.Test.YtopjaeoklkpcpaaGreatDoorS0
import Derived.Test.YtopjaeoklkpcpaaGreatDoorProg
import Derived.Test.YtopjaeoklkpcpaaGreatDoorS4
import Derived.Test.YtopjaeoklkpcpaaGreatDoorS1
import Derived.Test.YtopjaeoklkpcpaaGreatDoorS2
import Derived.Test.YtopjaeoklkpcpaaGreatDoorS3
namespace Go.Proofs.YtopjaeoklkpcpaaGreatDoor.Jd
open Go.Proofs.Tryz
open Go.Proofs
open Go.RowKit (Below)
set_option maxRecDepth 100000
set_option maxHeartbeats 8000000
set_option linter.unusedVariables false
set_option linter.unusedSimpArgs false
def Ee (r : Ab) (role : Int) (c : Ak) (now : Int) : Ab × Cs := (if (!(Gj r)) = true then ((Ab.mk (Slots.mk ([]) ([]) ([])) ([]) 0), (Cs.mk 150 0 (Handle.mk 0 0) 0 0)) else (if 1000000000000 ≤ r.seq then ((Ab.mk (Slots.mk ([]) ([]) ([])) ([]) 0), (Cs.mk 150 0 (Handle.mk 0 0) 0 0)) else (if now < 0 then ((Ab.mk (Slots.mk ([]) ([]) ([])) ([]) 0), (Cs.mk 150 0 (Handle.mk 0 0) 0 0)) else (if 1000000000000 < now then ((Ab.mk (Slots.mk ([]) ([]) ([])) ([]) 0), (Cs.mk 150 0 (Handle.mk 0 0) 0 0)) else (if (!(Mm role c.verb)) = true then ((xR r), (Cs.mk 151 (r.seq + 1) (Handle.mk 0 0) 0 0)) else (tM (if c.verb = 1 then (if (!(Ho c.name)) = true then (true, 152, 0, 0, ([] : Az), 0, 0, [], [], 0, r.slots.gens, r.slots.used, r.slots.free, r.l) else (if ((Ap (xR r) c.name).2) = true then (true, 153, 0, 0, ([] : Az), 0, 0, [], [], 0, r.slots.gens, r.slots.used, r.slots.free, r.l) else (if ((Cl r.slots).2.2) ≠ 0 then (true, ((Cl r.slots).2.2), 0, 0, ([] : Az), 0, 0, [], [], 0, r.slots.gens, r.slots.used, r.slots.free, r.l) else (if ((Em ([]) c.key now 0 c.n).2.2) ≠ 0 then (true, ((Em ([]) c.key now 0 c.n).2.2), 0, 0, ([] : Az), 0, 0, [], [], 0, r.slots.gens, r.slots.used, r.slots.free, r.l) else (false, 0, ((Cl r.slots).2.1.slot), ((Cl r.slots).2.1.gen), c.name, 1, 1, [], ((Em ([]) c.key now 0 c.n).1), 0, ((Cl r.slots).1.gens), ((Cl r.slots).1.used), ((Cl r.slots).1.free), (Ge r.l (Aa.mk ((Cl r.slots).2.1) c.name 1 1 ([]) ((Em ([]) c.key now 0 c.n).1) 0))))))) else (if c.verb = 9 then (false, 0, 0, 0, ([] : Az), 0, 0, [], [], 0, r.slots.gens, r.slots.used, r.slots.free, r.l) else (if (!((Ap (xR r) c.name).2)) = true then (true, 154, 0, 0, ([] : Az), 0, 0, [], [], 0, r.slots.gens, r.slots.used, r.slots.free, r.l) else (Iz (if c.want ≠ 0 then (decide (c.want ≠ ((xA r c).version))) else false) (fun x_19 => (if x_19 = true then (true, 155, 0, 0, ([] : Az), 0, 0, [], [], 0, r.slots.gens, r.slots.used, r.slots.free, r.l) else (V3 (if c.verb = 2 then (if ¬ (((xA r c).state) ≠ 2) then (true, 156, ((xA r c).state), ((xA r c).rules), ((xA r c).creds), ((xA r c).deadline)) else (false, 0, 2, ((xA r c).rules), ((xA r c).creds), 0)) else (if c.verb = 3 then (if ¬ (((xA r c).state) = 2) then (true, 156, ((xA r c).state), ((xA r c).rules), ((xA r c).creds), ((xA r c).deadline)) else (false, 0, 1, ((xA r c).rules), ((xA r c).creds), 0)) else (if c.verb = 4 then (if ¬ (((xA r c).state) = 1) then (true, 156, ((xA r c).state), ((xA r c).rules), ((xA r c).creds), ((xA r c).deadline)) else (if c.n < 1 then (true, 2, 3, ((xA r c).rules), ((xA r c).creds), 0) else (if 1000000000 < c.n then (true, 2, 3, ((xA r c).rules), ((xA r c).creds), 0) else (if 1000000000000 < (now + c.n) then (true, 2, 3, ((xA r c).rules), ((xA r c).creds), 0) else (false, 0, 3, ((xA r c).rules), ((xA r c).creds), (now + c.n)))))) else (if c.verb = 6 then (if ((Em ((xA r c).creds) c.key now c.n c.m).2.2) ≠ 0 then (true, ((Em ((xA r c).creds) c.key now c.n c.m).2.2), ((xA r c).state), ((xA r c).rules), ((Em ((xA r c).creds) c.key now c.n c.m).1), ((xA r c).deadline)) else (false, 0, ((xA r c).state), ((xA r c).rules), ((Em ((xA r c).creds) c.key now c.n c.m).1), ((xA r c).deadline))) else (if c.verb = 7 then (if 0 ≤ c.at_ then (if ((Cg ((xA r c).rules) c.at_ c.rule).2) ≠ 0 then (true, ((Cg ((xA r c).rules) c.at_ c.rule).2), ((xA r c).state), ((Cg ((xA r c).rules) c.at_ c.rule).1), ((xA r c).creds), ((xA r c).deadline)) else (false, 0, ((xA r c).state), ((Cg ((xA r c).rules) c.at_ c.rule).1), ((xA r c).creds), ((xA r c).deadline))) else (if ((Ci ((xA r c).rules) (IntKind.wrap .i64 (0 - (c.at_ + 1)))).2) ≠ 0 then (true, ((Ci ((xA r c).rules) (IntKind.wrap .i64 (0 - (c.at_ + 1)))).2), ((xA r c).state), ((Ci ((xA r c).rules) (IntKind.wrap .i64 (0 - (c.at_ + 1)))).1), ((xA r c).creds), ((xA r c).deadline)) else (false, 0, ((xA r c).state), ((Ci ((xA r c).rules) (IntKind.wrap .i64 (0 - (c.at_ + 1)))).1), ((xA r c).creds), ((xA r c).deadline)))) else (if c.verb = 5 then (false, 0, ((xA r c).state), ((xA r c).rules), ((xA r c).creds), ((xA r c).deadline)) else (if c.verb = 8 then (false, 0, ((xA r c).state), ((xA r c).rules), ((xA r c).creds), ((xA r c).deadline)) else (if c.verb = 10 then (false, 0, ((xA r c).state), ((xA r c).rules), ((xA r c).creds), ((xA r c).deadline)) else default)))))))) (fun err_21b err_21 x_22 x_23 x_24 x_25 => (if err_21b = true then (true, err_21, 0, 0, ([] : Az), 0, 0, [], [], 0, r.slots.gens, r.slots.used, r.slots.free, r.l) else (if c.verb = 8 then (false, 0, ((xA r c).handle.slot), ((xA r c).handle.gen), ((xA r c).name), ((xA r c).state), ((xA r c).version), ((xA r c).rules), ((xA r c).creds), ((xA r c).deadline), r.slots.gens, r.slots.used, r.slots.free, r.l) else (if c.verb = 10 then (false, 0, ((xA r c).handle.slot), ((xA r c).handle.gen), ((xA r c).name), ((xA r c).state), ((xA r c).version), ((xA r c).rules), ((xA r c).creds), ((xA r c).deadline), r.slots.gens, r.slots.used, r.slots.free, r.l) else (if c.verb = 5 then (false, 0, ((xA r c).handle.slot), ((xA r c).handle.gen), ((xA r c).name), x_22, (((xA r c).version) + 1), x_23, x_24, x_25, ((Gb r.slots ((xA r c).handle)).1.gens), ((Gb r.slots ((xA r c).handle)).1.used), ((Gb r.slots ((xA r c).handle)).1.free), (delL r.l ((Ap (xR r) c.name).1).toNat (((Ap (xR r) c.name).1) + 1).toNat)) else (false, 0, ((xA r c).handle.slot), ((xA r c).handle.gen), ((xA r c).name), x_22, (((xA r c).version) + 1), x_23, x_24, x_25, r.slots.gens, r.slots.used, r.slots.free, (Ge r.l (Aa.mk ((xA r c).handle) ((xA r c).name) x_22 (((xA r c).version) + 1) x_23 x_24 x_25))))))))))))))) (fun err_1b err_1 x_2 x_3 x_4 x_5 x_6 x_7 x_8 x_9 x_10 x_11 x_12 x_13 => (if err_1b = true then (Ie () ((xR r), (Cs.mk err_1 (r.seq + 1) (Handle.mk 0 0) 0 0))) else (Ie () ((Ab.mk (Slots.mk x_10 x_11 x_12) x_13 (r.seq + 1)), (Cs.mk 0 (r.seq + 1) (Handle.mk x_2 x_3) x_6 x_5)))))))))))
end Go.Proofs.YtopjaeoklkpcpaaGreatDoor.Jd

namespace Go.Proofs.YtopjaeoklkpcpaaGreatDoor.Jd
open Go.Proofs.Tryz
set_option linter.unusedVariables false
set_option linter.unusedSimpArgs false
theorem oX (r : Bf) : iJ r = Ja r := by
  unfold iJ Ja;rw [← wT, rH]
end Go.Proofs.YtopjaeoklkpcpaaGreatDoor.Jd

namespace Go.Proofs.YtopjaeoklkpcpaaGreatDoor.Jd
open Go.Proofs.Tryz
set_option linter.unusedVariables false
set_option linter.unusedSimpArgs false
theorem Li {α : Type} [Inhabited α] {xs : List α} {k : Nat} (h : k < xs.length) : xs.getD k default ∈ xs := by
  rw [List.getD_eq_getElem?_getD, List.getElem?_eq_getElem h]; exact List.getElem_mem h
theorem aU {α : Type} [Inhabited α] {xs : List α} {x : α} (h : x ∈ xs) : ∃ k, k < xs.length ∧ xs.getD k default = x := by
  obtain ⟨k, hk, rfl⟩ := List.getElem_of_mem h;exact ⟨k, hk, by rw [List.getD_eq_getElem?_getD, List.getElem?_eq_getElem hk]; rfl⟩
theorem Ue (l : List Bf) : ∀ n i, l.length < i + n → i ≤ l.length → (Ii l n i = .ok l.length ∧ ∀ k, i ≤ k → k < l.length → Ja (l.getD k default) = true) ∨ (Ii l n i = .error false ∧ ∃ k, k < l.length ∧ Ja (l.getD k default) = false)
  | 0, i, h1, h2 => by omega
  | n + 1, i, h1, h2 => by
    unfold Ii;by_cases hi : i < l.length
    · rw [if_pos z4];cases hr : Ja (l.getD i default) with
      | false => exact .inr ⟨by simp, i, hi, hr⟩
      | true =>
        rw [if_neg Gu];rcases Ue l n (i + 1) z4 z4 with ⟨h3, h4⟩ | ⟨h3, k, h4⟩
        · refine .inl ⟨h3, fun k h5 h6 => ?_⟩;by_cases e : k = i
          · subst e; exact hr
          · exact h4 k z4 h6
        · exact .inr ⟨h3, k, h4⟩
    · rw [if_neg z4];exact .inl ⟨by congr 1; omega, fun k h5 h6 => by omega⟩
theorem Mz {l : List Bf} : Fm l = true ↔ l.length ≤ 16 ∧ ∀ r ∈ l, Ja r = true := by
  unfold Fm;by_cases hl : l.length ≤ 16
  · rw [if_pos z4];rcases Ue l (l.length + 1) 0 z4 z4 with ⟨h3, h4⟩ | ⟨h3, k, h4, h5⟩
    · rw [h3];refine ⟨fun _ => ⟨hl, fun r hr => ?_⟩, fun _ => rfl⟩;obtain ⟨k, hk, rfl⟩ := aU hr;exact h4 k (Nat.zero_le _) hk
    · rw [h3];refine ⟨fun h => (by cases h), fun h => ?_⟩;have := h.2 _ (Li h4);rw [h5] at this; cases this
  · rw [if_neg z4];exact ⟨fun h => (by cases h), fun h => absurd h.1 hl⟩
theorem Wk (l : List Bf) : ∀ n i, l.length < i + n → i ≤ l.length → (Jt l n i = .ok l.length ∧ ∀ k, i ≤ k → k < l.length → Ja (l.getD k default) = true) ∨ (Jt l n i = .error false ∧ ∃ k, k < l.length ∧ Ja (l.getD k default) = false)
  | 0, i, h1, h2 => by omega
  | n + 1, i, h1, h2 => by
    unfold Jt;rw [oX];by_cases hi : i < l.length
    · rw [if_pos z4];cases hr : Ja (l.getD i default) with
      | false => exact .inr ⟨by simp, i, hi, hr⟩
      | true =>
        rw [if_neg Gu];rcases Wk l n (i + 1) z4 z4 with ⟨h3, h4⟩ | ⟨h3, k, h4⟩
        · refine .inl ⟨h3, fun k h5 h6 => ?_⟩;by_cases e : k = i
          · subst e; exact hr
          · exact h4 k z4 h6
        · exact .inr ⟨h3, k, h4⟩
    · rw [if_neg z4];exact .inl ⟨by congr 1; omega, fun k h5 h6 => by omega⟩
theorem oY {l : List Bf} : Mu l = true ↔ l.length ≤ 16 ∧ ∀ r ∈ l, Ja r = true := by
  unfold Mu;rcases Wk l (l.length + 1) 0 z4 z4 with ⟨h3, h4⟩ | ⟨h3, k, h4, h5⟩
  · rw [h3];show decide _ = true ↔ _
    rw [decide_eq_true_eq];refine ⟨fun h => ⟨by omega, fun r hr => ?_⟩, fun h => by omega⟩;obtain ⟨k, hk, rfl⟩ := aU hr;exact h4 k (Nat.zero_le _) hk
  · rw [h3];refine ⟨fun h => (by cases h), fun h => ?_⟩;have := h.2 _ (Li h4);rw [h5] at this; cases this
theorem Xq (l : List Bf) : Mu l = Fm l := by rw [Bool.eq_iff_iff, oY, Mz]
theorem lI (l : List Bf) (a : Int) (r : Bf) : Cg l a r = Ij l a r := by
  unfold Cg Ij;rw [Xq, oX];simp [Ms]
theorem lJ (l : List Bf) (a : Int) : Ci l a = Ik l a := by
  unfold Ci Ik;rw [Xq];simp [delL]
theorem lK (l : List Bf) (a : Int) (r : Bf) : ((Cg l a r).2 ≠ 0 ∧ (Cg l a r).1 = []) ∨ (Fm l = true ∧ Ja r = true ∧ 0 ≤ a ∧ a ≤ l.length ∧ l.length < 16 ∧ Cg l a r = (Ms l a.toNat r, 0) ∧ Fm (Ms l a.toNat r) = true) := by
  unfold Cg;cases hr : Fm l with
  | false => left; simp
  | true =>
    cases ho : Ja r with
    | false => left; simp
    | true =>
      by_cases h1 : a < 0
      · left; simp [h1]
      · by_cases h2 : (l.length : Int) < a
        · left; simp [h1, h2]
        · by_cases h3 : 16 ≤ (l.length : Int)
          · left; rw [if_neg Gu, if_neg Gu, if_neg h1, if_neg h2, if_pos h3]; simp
          · right;refine ⟨rfl, rfl, by omega, by omega, by omega, by rw [if_neg Gu, if_neg Gu, if_neg h1, if_neg h2, if_neg h3], ?_⟩;rw [Mz] at hr ⊢;refine ⟨by rw [Gt z4]; omega, fun x hx => ?_⟩;simp only [Ms, List.mem_append, List.mem_cons] at hx;rcases hx with hx | rfl | hx
            · exact hr.2 x (List.mem_of_mem_take hx)
            · exact ho
            · exact hr.2 x (List.mem_of_mem_drop hx)
end Go.Proofs.YtopjaeoklkpcpaaGreatDoor.Jd

namespace Go.Proofs.YtopjaeoklkpcpaaGreatDoor.Jd
open Go.Proofs.Tryz
set_option linter.unusedVariables false
set_option linter.unusedSimpArgs false
def rt (r : Ab) : Int := if Gj r = true then 1 else 0
theorem AN8 {r : Ab} : rt r = 1 ↔ Gj r = true := by
  unfold rt;split
  · simp_all
  · simp_all
def abd (r : Ab) (c : Ak) (now : Int) (x : Ab × Cs) : Prop :=
  x.2.err ≠ 150 → rt r = 1 ∧ 0 ≤ now ∧ now ≤ 1000000000000 ∧ 0 ≤ r.seq ∧ r.seq < 1000000000000 ∧ x.1.seq = r.seq + 1 ∧ (x.2.err = 0 → c.verb = 4 → 1 ≤ c.n ∧ c.n ≤ 1000000000) ∧ (x.2.err = 0 → 0 ≤ x.2.version ∧ x.2.version ≤ 1000000000001)
theorem yM (r : Ab) (role : Int) (c : Ak) (now : Int) : (Aq r role c now).2.err ≠ 150 → rt r = 1 ∧ 0 ≤ now ∧ now ≤ 1000000000000 ∧ 0 ≤ r.seq ∧ r.seq < 1000000000000 ∧ (Aq r role c now).1.seq = r.seq + 1 ∧ ((Aq r role c now).2.err = 0 → c.verb = 4 → 1 ≤ c.n ∧ c.n ≤ 1000000000) ∧ ((Aq r role c now).2.err = 0 → 0 ≤ (Aq r role c now).2.version ∧ (Aq r role c now).2.version ≤ 1000000000001) := by
  show abd r c now (Aq r role c now)
  unfold Aq;by_cases h1 : Gj r = true
  · have hrt := AN8.2 h1;have hb := Zk h1;have hv : (Ap (xR r) c.name).2 = true → 1 ≤ (xA r c).version ∧ (xA r c).version ≤ r.seq := fun hp => by
      have h2 := Zh hp;exact Rm h1 (i := xN r c) (by
        have e1 : (Ap (xR r) c.name).1.toNat = xN r c := rfl;have e2 : (xR r).l.length = r.l.length := rfl;omega)
    rw [h1];simp only [Ie, Iz, Bool.not_true, Bool.false_eq_true, if_false];by_cases h2 : 1000000000000 ≤ r.seq
    · rw [if_pos h2]; intro h; exact absurd rfl h
    rw [if_neg h2];by_cases h3 : now < 0
    · rw [if_pos h3]; intro h; exact absurd rfl h
    rw [if_neg h3];by_cases h4 : 1000000000000 < now
    · rw [if_pos h4]; intro h; exact absurd rfl h
    rw [if_neg h4];have key : ∀ (x : Ab × Cs), x.1.seq = r.seq + 1 → (x.2.err = 0 → c.verb = 4 → 1 ≤ c.n ∧ c.n ≤ 1000000000) → (x.2.err = 0 → 0 ≤ x.2.version ∧ x.2.version ≤ 1000000000001) → abd r c now x := fun x e1 e2 e3 h => ⟨hrt, by omega, by omega, by omega, by omega, e1, e2, e3⟩
    have bad : ∀ e : Int, e ≠ 0 → abd r c now (xR r, Cs.mk e (r.seq + 1) (Handle.mk 0 0) 0 0) := fun e he => key _ rfl (fun h5 => absurd h5 he) (fun h5 => absurd h5 he)
    by_cases hm : (!Mm role c.verb) = true
    · rw [if_pos hm]; exact bad _ Gn
    rw [if_neg hm];by_cases v1 : c.verb = 1
    · rw [if_pos v1];refine A5 ?_;refine A5 ?_;by_cases e1 : (Cl r.slots).2.2 ≠ 0
      · rw [if_pos e1]; exact bad _ e1
      rw [if_neg e1];by_cases e2 : (Em [] c.key now 0 c.n).2.2 ≠ 0
      · rw [if_pos e2]; exact bad _ e2
      rw [if_neg e2];exact key _ rfl (fun _ h6 => by omega) (fun _ => by simp only; omega)
    rw [if_neg v1];by_cases v9 : c.verb = 9
    · rw [if_pos v9]; exact key _ rfl (fun _ h6 => by omega) (fun _ => by simp only; omega)
    rw [if_neg v9];cases hp : (Ap (xR r) c.name).2 with
    | false => simp only [Bool.not_false, if_true]; exact bad _ Gn
    | true =>
      have hv' := hv hp;simp only [Bool.not_true, Bool.false_eq_true, if_false];refine A5 ?_;have good : ∀ (s : Slots) (l : List Aa) (h : Handle) (st : Int), c.verb ≠ 4 → abd r c now (Ab.mk s l (r.seq + 1), Cs.mk 0 (r.seq + 1) h ((xA r c).version + 1) st) := fun s l h st h4 => key _ rfl (fun _ h6 => absurd h6 h4) (fun _ => by simp only; omega)
      have look : ∀ (s : Slots) (l : List Aa) (h : Handle) (st : Int), c.verb ≠ 4 → abd r c now (Ab.mk s l (r.seq + 1), Cs.mk 0 (r.seq + 1) h (xA r c).version st) := fun s l h st h4 => key _ rfl (fun _ h6 => absurd h6 h4) (fun _ => by simp only; omega)
      by_cases v2 : c.verb = 2
      · rw [if_pos v2]; exact cY (P := abd r c now) (bad _ Gn) (good _ _ _ _ z4)
      rw [if_neg v2];by_cases v3 : c.verb = 3
      · rw [if_pos v3]; exact cY (P := abd r c now) (bad _ Gn) (good _ _ _ _ z4)
      rw [if_neg v3];by_cases v4 : c.verb = 4
      · rw [if_pos v4];refine A5 ?_;by_cases n1 : c.n < 1
        · rw [if_pos n1]; exact bad _ Gn
        rw [if_neg n1];by_cases n2 : 1000000000 < c.n
        · rw [if_pos n2]; exact bad _ Gn
        rw [if_neg n2];refine A5 ?_;exact key _ rfl (fun _ _ => by omega) (fun _ => by simp only; omega)
      rw [if_neg v4];by_cases v6 : c.verb = 6
      · rw [if_pos v6];by_cases e1 : (Em (xA r c).creds c.key now c.n c.m).2.2 ≠ 0
        · rw [if_pos e1]; exact bad _ e1
        rw [if_neg e1]; exact good _ _ _ _ v4
      rw [if_neg v6];by_cases v7 : c.verb = 7
      · rw [if_pos v7];by_cases a0 : 0 ≤ c.at_
        · rw [if_pos a0];by_cases e1 : (Cg (xA r c).rules c.at_ c.rule).2 ≠ 0
          · rw [if_pos e1]; exact bad _ e1
          rw [if_neg e1]; exact good _ _ _ _ v4
        · rw [if_neg a0];by_cases e1 : (Ci (xA r c).rules (IntKind.wrap .i64 (0 - (c.at_ + 1)))).2 ≠ 0
          · rw [if_pos e1]; exact bad _ e1
          rw [if_neg e1]; exact good _ _ _ _ v4
      rw [if_neg v7];by_cases v5 : c.verb = 5
      · rw [if_pos v5]; exact good _ _ _ _ v4
      rw [if_neg v5];by_cases v8 : c.verb = 8
      · rw [if_pos v8]; exact look _ _ _ _ v4
      rw [if_neg v8];by_cases v10 : c.verb = 10
      · rw [if_pos v10]; exact look _ _ _ _ v4
      rw [if_neg v10];have := Zj (n := role) (v := c.verb) (by simpa using hm);omega
  · have h1' : Gj r = false := by simpa using h1
    rw [h1'];intro h; exact absurd rfl h
end Go.Proofs.YtopjaeoklkpcpaaGreatDoor.Jd

namespace Go.Proofs.YtopjaeoklkpcpaaGreatDoor.Jd
open Go.Proofs.Tryz
set_option linter.unusedVariables false
set_option linter.unusedSimpArgs false
theorem oZ (s : Az) : ∀ n i, Kd s n i = Le s n i
  | 0, i => rfl
  | n + 1, i => by
    unfold Kd Le;by_cases hi : i < s.length
    · rw [if_pos hi, if_pos (show ((i : Nat) : Int) < ((s.length : Nat) : Int) by omega)];by_cases hb : (s.getD i default).toNat < 128
      · rw [AL8 hi hb, oZ s n (i + 1)]
      · have h1 := AL9 hi hb;rw [if_neg z4, if_pos z4, if_neg z4, if_pos z4]
    · rw [if_neg hi, if_neg z4]
theorem sI (s : Az) : Yx s = eF s := by
  unfold Yx eF cP Yw;simp only [oZ]
theorem jI (s : Az) : aQ s = Ho s := by
  unfold aQ Ho;rw [sI];by_cases h : s = []
  · subst h; simp
  · have : 1 ≤ s.length := by
      cases s with
      | nil => exact absurd rfl h
      | cons a b => simp
    rw [if_pos z4];simp [h]
theorem Zn {t : Aa} {seq : Int} : Oe t seq = true ↔ Og seq t := by
  unfold Oe;rw [jI, Xq, Xh];constructor
  · intro h
    repeat' split at h
    all_goals first | (cases h; done) | skip
    all_goals refine ⟨by simp_all, by omega, by omega, by omega, ?_, by assumption, h⟩
    all_goals omega
  · rintro ⟨h1, h2, h3, h4, h5, h6, h7⟩;rw [h1, h6, h7, if_neg Gu, if_neg z4, if_neg z4, if_neg z4, if_neg z4, if_neg z4, if_neg z4];split
    · rw [if_neg z4, if_pos rfl]
    · rw [if_pos rfl]
end Go.Proofs.YtopjaeoklkpcpaaGreatDoor.Jd

namespace Go.Proofs.YtopjaeoklkpcpaaGreatDoor.Jd
open Go.Proofs.Tryz
set_option linter.unusedVariables false
set_option linter.unusedSimpArgs false
theorem Uf (s : Slots) : ∀ n i, s.gens.length < i + n → i ≤ s.gens.length → (∃ j, Fq s n i = .ok j ∧ ∀ k, i ≤ k → k < s.gens.length → 0 ≤ s.gens.getD k default ∧ s.gens.getD k default ≤ 1000000000) ∨ (Fq s n i = .error false ∧ ∃ k, i ≤ k ∧ k < s.gens.length ∧ ¬ (0 ≤ s.gens.getD k default ∧ s.gens.getD k default ≤ 1000000000))
  | 0, i, h1, h2 => by omega
  | n + 1, i, h1, h2 => by
    unfold Fq;have h0 : (0 : Int) ≤ ((i : Nat) : Int) := by omega
    simp only [h0, not_true_eq_false, not_false_eq_true, if_true];by_cases hi : i < s.gens.length
    · rw [if_pos z4];by_cases a : s.gens.getD i default < 0
      · rw [if_pos a]; exact .inr ⟨rfl, i, Nat.le_refl _, hi, by omega⟩
      rw [if_neg a];by_cases b : 1000000000 < s.gens.getD i default
      · rw [if_pos b]; exact .inr ⟨rfl, i, Nat.le_refl _, hi, by omega⟩
      rw [if_neg b];rcases Uf s n (i + 1) z4 z4 with ⟨j, h3, h4⟩ | ⟨h3, k, h4, h5⟩
      · refine .inl ⟨j, h3, fun k h5 h6 => ?_⟩;by_cases e : k = i
        · subst e; omega
        · exact h4 k z4 h6
      · exact .inr ⟨h3, k, by omega, h5⟩
    · rw [if_neg z4]; exact .inl ⟨i, rfl, fun k h3 h4 => by omega⟩
theorem Oi (s : Slots) (a b : Nat) (l : List Int) : ∀ n i x, s.used.length < i + n → i ≤ s.used.length → (Hg s a b l n i x).2 = x - (((s.used.drop i).count true : Nat) : Int)
  | 0, i, x, h1, h2 => by omega
  | n + 1, i, x, h1, h2 => by
    unfold Hg;by_cases hi : i < s.used.length
    · rw [if_pos z4, Gw hi];by_cases hu : s.used.getD i default = true
      · rw [if_pos hu, Oi s a b l n (i + 1) _ z4 z4, hu, List.count_cons_self]; omega
      · have hf : s.used.getD i default = false := by simpa using hu
        rw [if_neg hu, Oi s a b l n (i + 1) _ z4 z4, hf, List.count_cons_of_ne Gn]
    · rw [if_neg z4, List.drop_eq_nil_of_le z4]; simp
def Xr (s : Slots) (x : Int) : Prop := 0 ≤ x ∧ x < ((s.used.length : Nat) : Int) ∧ s.used.getD x.toNat default = false
theorem Ug (s : Slots) (a : Nat) : ∀ n i acc, s.free.length < i + n → i ≤ s.free.length → (∃ j, Fc s a n i acc = .ok (j, acc ++ s.free.drop i) ∧ (∀ x ∈ s.free.drop i, Xr s x ∧ x ∉ acc) ∧ (s.free.drop i).Nodup) ∨ (Fc s a n i acc = .error false ∧ ¬ ((∀ x ∈ s.free.drop i, Xr s x ∧ x ∉ acc) ∧ (s.free.drop i).Nodup))
  | 0, i, acc, h1, h2 => by omega
  | n + 1, i, acc, h1, h2 => by
    unfold Fc;by_cases hi : i < s.free.length
    · rw [if_pos z4, Gw hi];generalize s.free.getD i default = x;have bad : ¬ (Xr s x ∧ x ∉ acc) → ¬ ((∀ y ∈ x :: s.free.drop (i + 1), Xr s y ∧ y ∉ acc) ∧ (x :: s.free.drop (i + 1)).Nodup) := fun h h2 => h (h2.1 x List.mem_cons_self)
      by_cases c1 : x < 0
      · rw [if_pos c1]; exact .inr ⟨rfl, bad fun h => by have := h.1.1; omega⟩
      rw [if_neg c1];by_cases c2 : ((s.used.length : Nat) : Int) ≤ x
      · rw [if_pos c2]; exact .inr ⟨rfl, bad fun h => by have := h.1.2.1; omega⟩
      rw [if_neg c2];by_cases c3 : s.used.getD x.toNat default = true
      · rw [if_pos c3]; exact .inr ⟨rfl, bad fun h => by have := h.1.2.2; rw [c3] at this; cases this⟩
      rw [if_neg c3];by_cases c4 : x ∈ acc
      · rw [if_pos c4]; exact .inr ⟨rfl, bad fun h => h.2 c4⟩
      rw [if_neg c4];have hx : Xr s x := ⟨by omega, by omega, by simpa using c3⟩
      rcases Ug s a n (i + 1) (acc ++ [x]) z4 z4 with ⟨j, h3, h4, h5⟩ | ⟨h3, h4⟩
      · refine .inl ⟨j, by rw [h3]; simp, fun y hy => ?_, ?_⟩
        · rcases List.mem_cons.1 hy with rfl | hy
          · exact ⟨hx, c4⟩
          · exact ⟨(h4 y hy).1, fun h => (h4 y hy).2 (List.mem_append_left _ h)⟩
        · exact List.nodup_cons.2 ⟨fun h => (h4 x h).2 Gu, h5⟩
      · refine .inr ⟨h3, fun ⟨g1, g2⟩ => h4 ⟨fun y hy => ⟨(g1 y (List.mem_cons_of_mem _ hy)).1, fun h => ?_⟩, (List.nodup_cons.1 g2).2⟩⟩;rcases List.mem_append.1 h with h | h
        · exact (g1 y (List.mem_cons_of_mem _ hy)).2 h
        · have e : y = x := by simpa using h
          exact (List.nodup_cons.1 g2).1 (e ▸ hy)
    · rw [if_neg z4, List.drop_eq_nil_of_le z4];exact .inl ⟨i, by simp, by simp, List.nodup_nil⟩
theorem sJ {s : Slots} : Fb s = true ↔ (1 ≤ s.gens.length ∧ s.gens.length ≤ 64 ∧ s.used.length = s.gens.length) ∧ (∀ x ∈ s.gens, 0 ≤ x ∧ x ≤ 1000000000) ∧ SlT.freeD s.used s.free ∧ (s.gens.length : Int) - (SlT.cntU s.used : Int) = (s.free.length : Int) := by
  unfold Fb;by_cases h1 : 1 ≤ s.gens.length;rotate_left
  · rw [if_neg z4]; exact ⟨nofun, fun h => absurd h.1.1 h1⟩
  rw [if_pos z4];by_cases h2 : s.gens.length ≤ 64;rotate_left
  · rw [if_neg z4]; exact ⟨nofun, fun h => absurd h.1.2.1 h2⟩
  rw [if_pos z4];by_cases h3 : s.used.length = s.gens.length;rotate_left
  · rw [if_pos z4]; exact ⟨nofun, fun h => absurd h.1.2.2 h3⟩
  rw [if_neg z4];rcases Uf s (s.gens.length + 1) 0 z4 z4 with ⟨j, e, hg⟩ | ⟨e, k, _, hk, hb⟩
  rotate_left
  · rw [e];simp only [Cc];refine ⟨nofun, fun h => absurd (h.2.1 _ ?_) hb⟩;rw [List.getD_eq_getElem?_getD, List.getElem?_eq_getElem hk]; exact List.getElem_mem hk
  rw [e];simp only [Cc];have hgens : ∀ x ∈ s.gens, 0 ≤ x ∧ x ≤ 1000000000 := fun x hx => by
    obtain ⟨k, hk, rfl⟩ := List.getElem_of_mem hx;have := hg k z4 hk;simpa [List.getD, hk] using this
  rcases Ug s j (s.free.length + 1) 0 [] z4 z4 with ⟨j2, e2, hf, hn⟩ | ⟨e2, hf⟩
  rotate_left
  · rw [e2];simp only [Hr];refine ⟨nofun, fun h => absurd ?_ hf⟩;simpa [SlT.freeD, Xr] using h.2.2.1
  rw [e2];simp only [Hr];have h6 := Oi s j j2 ([] ++ s.free.drop 0) (s.used.length + 1) 0 ((s.gens.length : Nat) : Int) z4 z4;generalize Hg s j j2 ([] ++ s.free.drop 0) (s.used.length + 1) 0 ((s.gens.length : Nat) : Int) = y at h6;obtain ⟨y1, y2⟩ := y;simp only [List.drop_zero, List.nil_append] at h6;simp only [Pn, List.drop_zero, List.nil_append];rw [SlT.cntU_eq];have hfr : SlT.freeD s.used s.free := by simpa [SlT.freeD, Xr] using (⟨hf, hn⟩ : _ ∧ _)
  by_cases hc : y2 = ((s.free.length : Nat) : Int)
  · rw [if_neg (by simp [hc])];exact ⟨fun _ => ⟨⟨h1, h2, h3⟩, hgens, hfr, by omega⟩, fun _ => rfl⟩
  · rw [if_pos hc];exact ⟨nofun, fun h => absurd z4 hc⟩
theorem Kk (s : Slots) : Fb s = SlT.rightB s.gens s.used s.free := by rw [Bool.eq_iff_iff, sJ, SlT.rightB_iff]
theorem aV (s : Slots) : Fb s = Jp s := by rw [Kk, sB]
theorem pA (s : Slots) : Cl s = Df s := by
  unfold Cl Df;rw [aV]
theorem Xs (s : Slots) (hl : s.used.length = s.gens.length) : ∀ n i out, s.used.length < i + n → i ≤ s.used.length → ((Hz s n i out).2).map hT = out.map hT ++ (SlT.usedIx i (s.used.drop i)).map fun j : Nat => ((j : Int), s.gens.getD j default)
  | 0, i, out, h1, h2 => by omega
  | n + 1, i, out, h1, h2 => by
    unfold Hz;by_cases hi : i < s.used.length
    · rw [if_pos z4, Gw hi];cases hb : s.used.getD i default
      · rw [if_neg Gu, Xs s hl n (i + 1) _ z4 z4];simp [SlT.usedIx]
      · rw [if_pos rfl, Xs s hl n (i + 1) _ z4 z4];simp [SlT.usedIx, hT]
    · rw [if_neg z4, List.drop_eq_nil_of_le z4];simp [SlT.usedIx]
theorem Pi (s : Slots) : (Dz s).map hT = SlT.allD s.gens s.used s.free := by
  unfold Dz SlT.allD;rw [Kk];cases h : SlT.rightB s.gens s.used s.free with
  | false => simp
  | true =>
    have hl := (SlT.rightB_iff.1 h).1.2.2;have e := Xs s hl (s.used.length + 1) 0 [] z4 z4;simp only [Bool.not_true, Bool.false_eq_true, if_false, if_true, SlT.hnd];generalize Hz s (s.used.length + 1) 0 [] = y at e;obtain ⟨y1, y2⟩ := y;simpa [Pn] using e
theorem fJ {a b : List Handle} (h : a.map hT = b.map hT) : a = b := by
  induction a generalizing b with
  | nil => cases b with
    | nil => rfl
    | cons x y => simp at h
  | cons x y ih => cases b with
    | nil => simp at h
    | cons z w =>
      simp only [List.map_cons, List.cons.injEq] at h;rw [aT h.1, ih h.2]
theorem AB7 (s : Slots) : Dz s = Jj s := fJ (by rw [Pi, L5])
theorem Wl (s : Slots) (h : Handle) : ∀ n i, (Dz s).length < i + n → i ≤ (Dz s).length → (Cc (Hu s h n i) (fun r => r) (fun _ => false) = true ↔ h ∈ (Dz s).drop i)
  | 0, i, h1, h2 => by omega
  | n + 1, i, h1, h2 => by
    unfold Hu;by_cases hi : i < (Dz s).length
    · rw [if_pos z4, Gw hi];generalize (Dz s).getD i default = x;by_cases hx : x.slot = h.slot ∧ x.gen = h.gen
      · have e : x = h := aT (by simp [hT, hx.1, hx.2]);rw [if_pos hx, e]; simp [Cc]
      · rw [if_neg hx, Wl s h n (i + 1) z4 z4, List.mem_cons];exact ⟨.inr, fun h3 => h3.resolve_left fun e => hx (by rw [e]; exact ⟨rfl, rfl⟩)⟩
    · rw [if_neg z4, List.drop_eq_nil_of_le z4]; simp [Cc]
theorem sK (s : Slots) (h : Handle) : Tk s h = true ↔ h ∈ Dz s := Wl s h _ 0 z4 z4
theorem Oj {h : Handle} {l : List Handle} : hT h ∈ l.map hT ↔ h ∈ l := by
  constructor
  · intro e;obtain ⟨x, hx, e2⟩ := List.mem_map.1 e;exact aT e2 ▸ hx
  · exact fun e => List.mem_map.2 ⟨h, e, rfl⟩
theorem yN (s : Slots) (h : Handle) : Tk s h = Rl s h := by
  rw [Bool.eq_iff_iff, sK, Uc, SlT.rValid_eq, ← Oj, Pi, decide_eq_true_eq];exact Iff.rfl
theorem pB (s : Slots) (h : Handle) : Gb s h = Gp s h := by
  unfold Gb Gp;rw [aV, yN]
end Go.Proofs.YtopjaeoklkpcpaaGreatDoor.Jd

namespace Go.Proofs.YtopjaeoklkpcpaaGreatDoor.Jd
open Go.Proofs.Tryz
set_option linter.unusedVariables false
set_option linter.unusedSimpArgs false
def Up (l : List Handle) : Prop := l.Pairwise fun a b => a.slot < b.slot
theorem Up.ext : ∀ {a b : List Handle}, Up a → Up b → (∀ h, h ∈ a ↔ h ∈ b) → a = b
  | [], [], _, _, _ => rfl
  | [], y :: ys, _, _, h => absurd ((h y).2 List.mem_cons_self) Gu
  | x :: xs, [], _, _, h => absurd ((h x).1 List.mem_cons_self) Gu
  | x :: xs, y :: ys, ha, hb, h => by
    obtain ⟨a1, a2⟩ := List.pairwise_cons.1 ha;obtain ⟨b1, b2⟩ := List.pairwise_cons.1 hb;have e : x = y := by
      rcases List.mem_cons.1 ((h x).1 List.mem_cons_self) with e | h1
      · exact e
      rcases List.mem_cons.1 ((h y).2 List.mem_cons_self) with e | h2
      · exact e.symm
      have := b1 x h1;have := a1 y h2;omega
    subst e;refine congrArg _ (Up.ext a2 b2 fun z => ⟨fun hz => ?_, fun hz => ?_⟩)
    · rcases List.mem_cons.1 ((h z).1 (List.mem_cons_of_mem _ hz)) with e | h3
      · subst e; have := a1 z hz; omega
      · exact h3
    · rcases List.mem_cons.1 ((h z).2 (List.mem_cons_of_mem _ hz)) with e | h3
      · subst e; have := b1 z hz; omega
      · exact h3
theorem Up.nodup {l : List Handle} (h : Up l) : l.Nodup := h.imp fun h e => by subst e; omega
theorem Up.inj {l : List Handle} (h : Up l) {x y : Handle} (hx : x ∈ l) (hy : y ∈ l) (e : x.slot = y.slot) : x = y := by
  induction l with
  | nil => cases hx
  | cons z w ih =>
    obtain ⟨a1, a2⟩ := List.pairwise_cons.1 h;rcases List.mem_cons.1 hx with hx | hx
    · rcases List.mem_cons.1 hy with hy | hy
      · rw [hx, hy]
      · have := a1 y hy; subst hx; omega
    · rcases List.mem_cons.1 hy with hy | hy
      · have := a1 x hx; subst hy; omega
      · exact ih a2 hx hy
theorem Zo {s : Slots} (h : Fb s = true) {x : Handle} : x ∈ Dz s ↔ 0 ≤ x.slot ∧ s.used[x.slot.toNat]? = some true ∧ s.gens.getD x.slot.toNat default = x.gen := by
  rw [← Oj, Pi];exact SlT.allD_mem (by rw [← Kk]; exact h)
theorem M1 {s : Slots} (h : Fb s = false) : Dz s = [] := fJ (by rw [Pi, SlT.all_no (by rw [← Kk]; exact h)]; rfl)
theorem Vh (s : Slots) : Up (Dz s) := by
  have e : Up (Dz s) ↔ ((Dz s).map hT).Pairwise fun a b => a.1 < b.1 := by rw [List.pairwise_map]; exact Iff.rfl
  rw [e, Pi];unfold SlT.allD;split
  · unfold SlT.hnd;rw [List.pairwise_map];refine (SlT.usedIx_sorted s.used 0).imp fun h => ?_
    simp only; omega
  · exact List.Pairwise.nil
/-- What a slot that is taken is. -/
structure BB3 (s s' : Slots) (h : Handle) : Prop where
  was : Fb s = true
  right : Fb s' = true
  slot : ∀ x ∈ Dz s, x.slot ≠ h.slot
  all : ∀ x, x ∈ Dz s' ↔ x ∈ Dz s ∨ x = h
  dead : ∀ p q : Int, SlT.Dead p q s.gens s.used → SlT.Dead p q s'.gens s'.used ∧ ¬ (h.slot = p ∧ h.gen = q)
theorem lL {s : Slots} (e : (Cl s).2.2 = 0) : BB3 s (Cl s).1 (Cl s).2.1 := by
  have e0 := fH s;rw [← pA, SlT.rTake_eq] at e0;have e1 : sT (Cl s).1 = (SlT.takeD s.gens s.used s.free).1 := congrArg Prod.fst e0;have e2 : hT (Cl s).2.1 = (SlT.takeD s.gens s.used s.free).2.1 := congrArg (fun x => x.2.1) e0;have e3 : (Cl s).2.2 = (SlT.takeD s.gens s.used s.free).2.2 := congrArg (fun x => x.2.2) e0;rcases SlT.take_cases s.gens s.used s.free with ⟨_, h⟩ | ⟨_, h⟩ | ⟨i, h⟩
  · rw [e3, h] at e; simp at e
  · rw [e3, h] at e; simp at e
  rw [h.eq] at e1 e2;generalize (Cl s).1 = s' at *;generalize (Cl s).2.1 = hd at *;have hs' : s' = ⟨s.gens.set i (s.gens.getD i default + 1), s.used.set i true, s.free.take (s.free.length - 1)⟩ := sA e1;have hh : hd = ⟨(i : Int), s.gens.getD i default + 1⟩ := aT e2;have r1 : Fb s = true := by rw [Kk]; exact h.right
  have r2 : Fb s' = true := by rw [Kk, hs']; exact SlT.take_right h
  refine ⟨r1, r2, fun x hx he => ?_, fun x => ?_, fun p q hd => ?_⟩
  · have h1 := ((Zo r1).1 hx).2.1;rw [he, hh] at h1;simp only [Int.toNat_natCast] at h1;rw [h.free] at h1; cases h1
  · rw [← Oj, ← Oj, Pi, Pi, hs', hh];by_cases hx : x.slot = (i : Int) ∧ x.gen = s.gens.getD i default + 1
    · have ex : x = ⟨(i : Int), s.gens.getD i default + 1⟩ := aT (by simp [hT, hx.1, hx.2]);refine ⟨fun _ => .inr ex, fun _ => ?_⟩;rw [ex]; exact SlT.take_has h
    · refine (SlT.take_others h (p := x.slot) (q := x.gen) hx).symm.trans ⟨.inl, fun h2 => h2.resolve_right fun ex => hx (by rw [ex]; exact ⟨rfl, rfl⟩)⟩
  · rw [hs', hh]; exact SlT.dead_take h hd
/-- What a slot that is given back is. -/
structure BB4 (s s' : Slots) (h : Handle) : Prop where
  was : Fb s = true
  right : Fb s' = true
  all : ∀ x, x ∈ Dz s' ↔ x ∈ Dz s ∧ x ≠ h
  dead : SlT.Dead h.slot h.gen s'.gens s'.used
theorem uM {s : Slots} {h : Handle} (hm : h ∈ Dz s) : (Gb s h).2 = 0 ∧ BB4 s (Gb s h).1 h := by
  have r1 : Fb s = true := by
    cases hr : Fb s with
    | true => rfl
    | false => rw [M1 hr] at hm; cases hm
  have rb : SlT.rightB s.gens s.used s.free = true := by rw [← Kk]; exact r1
  have hm2 : (h.slot, h.gen) ∈ SlT.allD s.gens s.used s.free := by rw [← Pi]; exact Oj.2 hm
  have e0 := fI s h;rw [← pB, SlT.rGive_eq] at e0;have e1 : sT (Gb s h).1 = (SlT.giveD s.gens s.used s.free h.slot h.gen).1 := congrArg Prod.fst e0;have e2 : (Gb s h).2 = (SlT.giveD s.gens s.used s.free h.slot h.gen).2 := congrArg Prod.snd e0;rw [SlT.give_yes rb hm2] at e1 e2;refine ⟨e2, ?_⟩;generalize (Gb s h).1 = s' at *;have hs' : s' = ⟨s.gens, s.used.set h.slot.toNat false, s.free ++ [h.slot]⟩ := sA e1;have r2 : Fb s' = true := by rw [Kk, hs']; exact SlT.give_right rb hm2
  refine ⟨r1, r2, fun x => ?_, by rw [hs']; exact SlT.dead_given rb hm2⟩;obtain ⟨h1, h2, h3⟩ := (Zo r1).1 hm;have hl := (List.getElem?_eq_some_iff.1 h2).1;rw [Zo r2, Zo r1, hs'];simp only;by_cases hx : x.slot.toNat = h.slot.toNat
  · rw [hx, List.getElem?_set_self hl];constructor
    · rintro ⟨_, h5, _⟩; cases h5
    · rintro ⟨⟨h4, h5, h6⟩, h7⟩;refine absurd (aT ?_) h7;simp only [hT, Prod.mk.injEq];exact ⟨by omega, by rw [← h6, ← h3]⟩
  · rw [List.getElem?_set_ne (fun e => hx e.symm)];exact ⟨fun h4 => ⟨h4, fun e => hx (by rw [e])⟩, fun h4 => h4.1⟩
def cH : List Handle → Handle → List Handle
  | [], x => [x]
  | t :: r, x => if t.slot < x.slot then t :: cH r x else if t.slot = x.slot then x :: r else x :: t :: r
theorem Zp (x : Aa) : ∀ l : List Aa, (Ge l x).map Aa.handle = cH (l.map Aa.handle) x.handle
  | [] => rfl
  | t :: r => by
    simp only [Ge, cH, List.map_cons];split
    · rw [List.map_cons, Zp x r]
    · split <;> rfl
theorem jJ {x : Aa} : ∀ {l : List Aa}, (∀ t ∈ l, t.handle.slot ≠ x.handle.slot) → (Ge l x).Perm (x :: l)
  | [], _ => List.Perm.refl _
  | t :: r, h => by
    unfold Ge;split
    · exact ((jJ fun u hu => h u (List.mem_cons_of_mem _ hu)).cons t).trans (List.Perm.swap x t r)
    · rw [if_neg (h t List.mem_cons_self)]
theorem pC {x : Handle} : ∀ {l : List Handle}, (∀ t ∈ l, t.slot ≠ x.slot) → ∀ y, y ∈ cH l x ↔ y ∈ l ∨ y = x
  | [], _, y => by simp [cH]
  | t :: r, h, y => by
    unfold cH;split
    · rw [List.mem_cons, pC (fun u hu => h u (List.mem_cons_of_mem _ hu)), List.mem_cons, or_assoc]
    · rw [if_neg (h t List.mem_cons_self), List.mem_cons]; exact or_comm
theorem Up.put {x : Handle} : ∀ {l : List Handle}, Up l → Up (cH l x)
  | [], _ => List.pairwise_singleton _ _
  | t :: r, h => by
    obtain ⟨a1, a2⟩ := List.pairwise_cons.1 h;unfold cH;split
    · rename_i h1
      refine List.pairwise_cons.2 ⟨fun y hy => ?_, Up.put a2⟩;have key : ∀ {l : List Handle}, y ∈ cH l x → y ∈ l ∨ y = x := by
        intro l
        induction l with
        | nil => intro h; exact .inr (by simpa [cH] using h)
        | cons z w ih =>
          unfold cH;split
          · intro h; rcases List.mem_cons.1 h with rfl | h
            · exact .inl List.mem_cons_self
            · exact (ih h).imp (List.mem_cons_of_mem _) id
          · split
            · intro h; rcases List.mem_cons.1 h with rfl | h
              · exact .inr rfl
              · exact .inl (List.mem_cons_of_mem _ h)
            · intro h; rcases List.mem_cons.1 h with rfl | h
              · exact .inr rfl
              · exact .inl h
      rcases key hy with hy | rfl
      · exact a1 y hy
      · exact h1
    · split
      · rename_i h1 h2
        exact List.pairwise_cons.2 ⟨fun y hy => by have := a1 y hy; omega, a2⟩
      · rename_i h1 h2
        exact List.pairwise_cons.2 ⟨fun y hy => by
          rcases List.mem_cons.1 hy with rfl | hy
          · omega
          · have := a1 y hy; omega, h⟩
theorem pD {x : Aa} : ∀ {l : List Aa} {i : Nat}, Up (l.map Aa.handle) → i < l.length → (l.getD i default).handle.slot = x.handle.slot → Ge l x = l.set i x
  | [], i, _, hi, _ => by simp at hi
  | t :: r, 0, _, _, he => by
    have he' : t.handle.slot = x.handle.slot := by simpa using he
    unfold Ge;rw [if_neg z4, if_pos he']; rfl
  | t :: r, i + 1, h, hi, he => by
    obtain ⟨a1, a2⟩ := List.pairwise_cons.1 (show List.Pairwise _ (t.handle :: r.map Aa.handle) from h);have hi' : i < r.length := by simpa using hi
    have he' : (r.getD i default).handle.slot = x.handle.slot := by simpa using he
    have hm : (r.getD i default).handle ∈ r.map Aa.handle := List.mem_map.2 ⟨_, Li hi', rfl⟩;have := a1 _ hm;unfold Ge;rw [if_pos z4, pD a2 hi' he']; rfl
theorem yO {s : Slots} (e : (Cl s).2.2 = 0) : Dz (Cl s).1 = cH (Dz s) (Cl s).2.1 := by
  have h := lL e;refine Up.ext (Vh _) (Vh s).put fun x => ?_
  rw [h.all, pC h.slot]
theorem uN {α : Type} (l : List α) (i : Nat) : delL l i (i + 1) = l.take i ++ l.drop (i + 1) := rfl
theorem AB8 {α : Type} [Inhabited α] {l : List α} (hn : l.Nodup) {i : Nat} (hi : i < l.length) (x : α) : x ∈ delL l i (i + 1) ↔ x ∈ l ∧ x ≠ l.getD i default := by
  rw [uN, List.mem_append];have e : l = l.take i ++ (l.getD i default :: l.drop (i + 1)) := by rw [← Gw hi, List.take_append_drop]
  generalize l.getD i default = y at e ⊢;generalize l.take i = a at e ⊢;generalize l.drop (i + 1) = b at e ⊢;subst e;rw [List.nodup_append] at hn;obtain ⟨_, h2, h3⟩ := hn;have h4 := (List.nodup_cons.1 h2).1;rw [List.mem_append, List.mem_cons];constructor
  · rintro (h | h)
    · exact ⟨.inl h, h3 x h y List.mem_cons_self⟩
    · exact ⟨.inr (.inr h), fun e => h4 (e ▸ h)⟩
  · rintro ⟨h | h | h, h5⟩
    · exact .inl h
    · exact absurd h h5
    · exact .inr h
theorem Uh {α : Type} (l : List α) (i : Nat) : (delL l i (i + 1)).Sublist l := by
  rw [uN];have h := List.Sublist.append (List.Sublist.refl (l.take i)) (List.drop_sublist_drop_left l (Nat.le_succ i))
  rwa [List.take_append_drop] at h
theorem yP {s : Slots} {i : Nat} (hi : i < (Dz s).length) : Dz (Gb s ((Dz s).getD i default)).1 = delL (Dz s) i (i + 1) := by
  have h := (uM (s := s) (h := (Dz s).getD i default) (Li hi)).2;refine Up.ext (Vh _) ((Vh s).sublist (Uh _ _)) fun x => ?_
  rw [h.all, AB8 (Vh s).nodup hi]
theorem M2 {α β : Type} (f : α → β) (l : List α) (i j : Nat) : (delL l i j).map f = delL (l.map f) i j := by
  unfold delL; rw [List.map_append, List.map_take, List.map_drop]
end Go.Proofs.YtopjaeoklkpcpaaGreatDoor.Jd

namespace Go.Proofs.YtopjaeoklkpcpaaGreatDoor.Jd
open Go.Proofs.Tryz
set_option linter.unusedVariables false
set_option linter.unusedSimpArgs false
theorem Ui (r : Ab) (name : Az) : ∀ n i, r.l.length < i + n → i ≤ r.l.length → (∃ j, i ≤ j ∧ j < r.l.length ∧ Cc (Ea r name n i) (fun r => r) (fun x_1 => ((0 : Int), false)) = ((j : Int), true) ∧ (r.l.getD j default).name = name) ∨ (Cc (Ea r name n i) (fun r => r) (fun x_1 => ((0 : Int), false)) = (0, false) ∧ ∀ j, i ≤ j → j < r.l.length → (r.l.getD j default).name ≠ name)
  | 0, i, h1, h2 => by omega
  | n + 1, i, h1, h2 => by
    unfold Ea;by_cases hi : i < r.l.length
    · rw [if_pos z4];by_cases hn : (r.l.getD i default).name = name
      · rw [if_pos hn]; exact .inl ⟨i, Nat.le_refl _, hi, rfl, hn⟩
      · rw [if_neg hn];rcases Ui r name n (i + 1) z4 z4 with ⟨j, h3, h4, h5, h6⟩ | ⟨h3, h4⟩
        · exact .inl ⟨j, by omega, h4, h5, h6⟩
        · refine .inr ⟨h3, fun j h5 h6 => ?_⟩;by_cases e : j = i
          · subst e; exact hn
          · exact h4 j z4 h6
    · rw [if_neg z4]; exact .inr ⟨rfl, fun j h3 h4 => by omega⟩
theorem bO (r : Ab) (name : Az) : (∃ i, i < r.l.length ∧ Ap r name = ((i : Int), true) ∧ (r.l.getD i default).name = name) ∨ (Ap r name = (0, false) ∧ ∀ t ∈ r.l, t.name ≠ name) := by
  rcases Ui r name (r.l.length + 1) 0 z4 z4 with ⟨j, h3, h4, h5, h6⟩ | ⟨h3, h4⟩
  · exact .inl ⟨j, h4, h5, h6⟩
  · refine .inr ⟨h3, fun t ht => ?_⟩;obtain ⟨k, hk, e⟩ := aU ht;rw [← e]; exact h4 k z4 hk
theorem M3 {l : List Aa} (h : (l.map Aa.name).Nodup) {i j : Nat} (hi : i < l.length) (hj : j < l.length) (e : (l.getD i default).name = (l.getD j default).name) : i = j := by
  have e2 : (l.map Aa.name)[i]'(by simpa using hi) = (l.map Aa.name)[j]'(by simpa using hj) := by
    simpa [List.getD, hi, hj] using e
  rcases Nat.lt_trichotomy i j with hij | hij | hij
  · exact absurd e2 (List.pairwise_iff_getElem.1 h i j _ _ hij)
  · exact hij
  · exact absurd e2.symm (List.pairwise_iff_getElem.1 h j i _ _ hij)
theorem Og.mono {a b : Int} {t : Aa} (h : Og a t) (hab : a ≤ b) : Og b t := ⟨h.name, ⟨h.version.1, by have := h.version.2; omega⟩, h.state, h.deadline, h.drains, h.rules, h.creds⟩
section
variable {r : Ab}
theorem Fx.up (h : Fx r) : Up (r.l.map Aa.handle) := by rw [h.hs]; exact Vh _
theorem Fx.len (h : Fx r) : (Dz r.slots).length = r.l.length := by rw [← h.hs]; simp
theorem Fx.next (h : Fx r) (hq : r.seq < 1000000000000) : Fx (xR r) := ⟨h.slots, by have := h.seq; exact ⟨by show 0 ≤ r.seq + 1; omega, by show r.seq + 1 ≤ _; omega⟩, h.hs, h.names, fun t ht => (h.ok t ht).mono (by show r.seq ≤ r.seq + 1; omega)⟩
theorem Fx.at (h : Fx r) {i : Nat} (hi : i < r.l.length) : (Dz r.slots).getD i default = (r.l.getD i default).handle := ((Qr h.len).2 h.hs i hi).symm
theorem Fx.handle (h : Fx r) {t : Aa} (ht : t ∈ r.l) : t.handle ∈ Dz r.slots := by rw [← h.hs]; exact List.mem_map.2 ⟨t, ht, rfl⟩
end
theorem Zq {α β : Type} [Inhabited α] {f : α → β} {l : List α} {i : Nat} {u : α} (hi : i < l.length) (e : f u = f (l.getD i default)) : (l.set i u).map f = l.map f := by
  rw [List.map_set, e];refine List.ext_getElem Gu fun k h1 h2 => ?_
  rw [List.getElem_set];split
  · rename_i e2; subst e2; simp [List.getD, hi]
  · rfl
theorem Fx.put {r : Ab} (h : Fx r) (hq : r.seq < 1000000000000) {i : Nat} (hi : i < r.l.length) {u : Aa} (hh : u.handle = (r.l.getD i default).handle) (hn : u.name = (r.l.getD i default).name) (hu : Og (r.seq + 1) u) : Ge r.l u = r.l.set i u ∧ Fx ⟨r.slots, r.l.set i u, r.seq + 1⟩ := by
  refine ⟨pD h.up hi (by rw [hh]), h.slots, by have := h.seq; exact ⟨by show 0 ≤ r.seq + 1; omega, by show r.seq + 1 ≤ _; omega⟩, ?_, ?_, fun t ht => ?_⟩
  · show (r.l.set i u).map Aa.handle = _
    rw [Zq hi hh]; exact h.hs
  · show ((r.l.set i u).map Aa.name).Nodup
    rw [Zq hi hn]; exact h.names
  · rcases List.mem_or_eq_of_mem_set ht with ht | rfl
    · exact (h.ok t ht).mono (by show r.seq ≤ r.seq + 1; omega)
    · exact hu
theorem Fx.del {r : Ab} (h : Fx r) (hq : r.seq < 1000000000000) {i : Nat} (hi : i < r.l.length) : Fx ⟨(Gb r.slots (r.l.getD i default).handle).1, delL r.l i (i + 1), r.seq + 1⟩ := by
  have hi2 : i < (Dz r.slots).length := by rw [h.len]; exact hi
  have e := yP hi2;have g := (uM (s := r.slots) (h := (r.l.getD i default).handle) (h.handle (Li hi))).2;rw [h.at hi] at e;refine ⟨g.right, by have := h.seq; exact ⟨by show 0 ≤ r.seq + 1; omega, by show r.seq + 1 ≤ _; omega⟩, ?_, ?_, fun t ht => ?_⟩
  · show (delL r.l i (i + 1)).map Aa.handle = _
    rw [M2, h.hs, e]
  · exact h.names.sublist ((Uh _ _).map _)
  · exact (h.ok t ((Uh _ _).subset ht)).mono (by show r.seq ≤ r.seq + 1; omega)
theorem Fx.new {r : Ab} (h : Fx r) (hq : r.seq < 1000000000000) (e : (Cl r.slots).2.2 = 0) {t : Aa} (hh : t.handle = (Cl r.slots).2.1) (hn : ∀ u ∈ r.l, u.name ≠ t.name) (ht : Og (r.seq + 1) t) : (Ge r.l t).Perm (t :: r.l) ∧ Fx ⟨(Cl r.slots).1, Ge r.l t, r.seq + 1⟩ := by
  have k := lL e;have hp : (Ge r.l t).Perm (t :: r.l) := jJ fun u hu => by rw [hh]; exact k.slot _ (h.handle hu)
  refine ⟨hp, k.right, by have := h.seq; exact ⟨by show 0 ≤ r.seq + 1; omega, by show r.seq + 1 ≤ _; omega⟩, ?_, ?_, fun u hu => ?_⟩
  · show (Ge r.l t).map Aa.handle = _
    rw [Zp, h.hs, yO e, hh]
  · refine ((hp.map Aa.name).nodup_iff).2 ?_;rw [List.map_cons, List.nodup_cons];exact ⟨fun hm => by obtain ⟨u, hu, e⟩ := List.mem_map.1 hm; exact hn u hu e, h.names⟩
  · rcases List.mem_cons.1 (hp.mem_iff.1 hu) with rfl | hu
    · exact ht
    · exact (h.ok u hu).mono (by show r.seq ≤ r.seq + 1; omega)
end Go.Proofs.YtopjaeoklkpcpaaGreatDoor.Jd

namespace Go.Proofs.YtopjaeoklkpcpaaGreatDoor.Jd
open Go.Proofs.Tryz
set_option linter.unusedVariables false
set_option linter.unusedSimpArgs false
theorem sL (k : Az) : Mv k = Ob k := rfl
def Hh (now ov : Int) (c : Bs) : Int := if now + ov < c.to then now + ov else c.to
def Ip (now ov : Int) (c : Bs) : Option Bs := if c.to ≤ now then none else if c.frm < Hh now ov c then some ⟨c.id, c.key, c.frm, Hh now ov c⟩ else none
def idC (i : Int) (l : List Bs) : Int := l.foldl (fun _ c => c.id + 1) i
theorem Rp (l : List Bs) (key : Az) (now ov span : Int) : ∀ n k out id, l.length < n + k → (It l key now ov span n k out id).2 = (out ++ (l.drop k).filterMap (Ip now ov), idC id (l.drop k))
  | 0, k, out, id, h => by
    rw [Kh l k z4];simp [It, idC]
  | n + 1, k, out, id, h => by
    rw [It];by_cases hk : k < l.length
    · rw [if_pos z4, Uy l k hk, List.filterMap_cons];show _ = (_, idC ((l.getD k default).id + 1) (l.drop (k + 1)))
      by_cases h1 : (l.getD k default).to ≤ now
      · rw [if_pos h1, Rp l key now ov span n (k + 1) _ _ z4, show Ip now ov (l.getD k default) = none by unfold Ip; rw [if_pos h1]]
      · rw [if_neg h1];by_cases h2 : (l.getD k default).frm < Hh now ov (l.getD k default)
        · rw [show Ip now ov (l.getD k default) = some ⟨(l.getD k default).id, (l.getD k default).key, (l.getD k default).frm, Hh now ov (l.getD k default)⟩ by unfold Ip; rw [if_neg h1, if_pos h2]];unfold Hh at h2;rw [if_pos h2, Rp l key now ov span n (k + 1) _ _ z4];simp [Hh]
        · rw [show Ip now ov (l.getD k default) = none by unfold Ip; rw [if_neg h1, if_neg h2]];unfold Hh at h2;rw [if_neg h2, Rp l key now ov span n (k + 1) _ _ z4]
    · rw [if_neg z4, Kh l k hk];simp [idC]
theorem Pj (l : List Bs) (key : Az) (now ov span : Int) : ∀ n k out id, l.length < n + k → ((Ji l key now ov span n out id k).1, (Ji l key now ov span n out id k).2.1) = (out ++ (l.drop k).filterMap (Ip now ov), idC id (l.drop k))
  | 0, k, out, id, h => by
    rw [Kh l k z4];simp [Ji, idC]
  | n + 1, k, out, id, h => by
    rw [Ji];by_cases hk : k < l.length
    · rw [if_pos z4, Uy l k hk, List.filterMap_cons];show _ = (_, idC ((l.getD k default).id + 1) (l.drop (k + 1)))
      by_cases h1 : (l.getD k default).to ≤ now
      · rw [if_neg z4, Pj l key now ov span n (k + 1) _ _ z4, show Ip now ov (l.getD k default) = none by unfold Ip; rw [if_pos h1]]
      · rw [if_pos z4];by_cases h2 : (l.getD k default).frm < Hh now ov (l.getD k default)
        · rw [show Ip now ov (l.getD k default) = some ⟨(l.getD k default).id, (l.getD k default).key, (l.getD k default).frm, Hh now ov (l.getD k default)⟩ by unfold Ip; rw [if_neg h1, if_pos h2]];unfold Hh at h2;rw [if_pos h2, Pj l key now ov span n (k + 1) _ _ z4];simp [Hh]
        · rw [show Ip now ov (l.getD k default) = none by unfold Ip; rw [if_neg h1, if_neg h2]];unfold Hh at h2;rw [if_neg h2, Pj l key now ov span n (k + 1) _ _ z4]
    · rw [if_neg z4, Kh l k hk];simp [idC]
def AB9 (l : List Bs) (key : Az) (now ov span : Int) : List Bs × Int × Int :=
  if ¬ Js l = true then ([], 0, 110) else if ¬ Ob key = true then ([], 0, 50)
  else if ¬ ((0 ≤ now ∧ now ≤ 1000000000000) ∧ (0 ≤ ov ∧ ov ≤ 1000000000) ∧ (1 ≤ span ∧ span ≤ 1000000000) ∧ now + span ≤ 1000000000000) then ([], 0, 2)
  else if 4 < (l.filterMap (Ip now ov)).length + 1 ∨ 1000000000 < idC 1 l then ([], 0, 92)
  else (l.filterMap (Ip now ov) ++ [⟨idC 1 l, key, now, now + span⟩], idC 1 l, 0)
theorem Uj {n a b : Int} (h : Mn n a b = false) : ¬ (a ≤ n ∧ n ≤ b) := fun e => by
  rw [Iv.2 e] at h; cases h
theorem uO (l : List Bs) (key : Az) (now ov span : Int) : Em l key now ov span = AB9 l key now ov span := by
  unfold Em AB9;cases h1 : Js l
  · simp
  · cases h2 : Ob key
    · simp
    · simp only [Bool.not_true, Bool.false_eq_true, if_false, not_true_eq_false];cases h3 : Mn now 0 1000000000000
      · have := Uj h3;simp only [Bool.not_false, if_true];rw [if_pos z4]
      · have g3 := Iv.1 h3;cases h4 : Mn ov 0 1000000000
        · have := Uj h4;simp only [Bool.not_true, Bool.not_false, Bool.false_eq_true, if_false, if_true];rw [if_pos z4]
        · have g4 := Iv.1 h4;cases h5 : Mn span 1 1000000000
          · have := Uj h5;simp only [Bool.not_true, Bool.not_false, Bool.false_eq_true, if_false, if_true];rw [if_pos z4]
          · have g5 := Iv.1 h5;simp only [Bool.not_true, Bool.false_eq_true, if_false];by_cases h6 : 1000000000000 < now + span
            · rw [if_pos h6, if_pos z4]
            · rw [if_neg h6, if_neg (show ¬ ¬ _ by omega)];have e := Rp l key now ov span (l.length + 1) 0 [] 1 z4;simp only [kQ];rw [List.drop_zero, List.nil_append] at e;rw [e];simp only [List.length_append, List.length_cons, List.length_nil];by_cases h7 : 4 < (l.filterMap (Ip now ov)).length + 1
              · rw [if_pos z4, if_pos (.inl h7)]
              · rw [if_neg z4];by_cases h8 : 1000000000 < idC 1 l
                · rw [if_pos h8, if_pos (.inr h8)]
                · rw [if_neg h8, if_neg (by simp [h7, h8])]
theorem M4 (l : List Bs) (key : Az) (now ov span : Int) : Kv l key now ov span = Em l key now ov span := by
  rw [uO];unfold Kv AB9;rw [Xh, sL];cases h1 : Js l
  · simp
  · cases h2 : Ob key
    · simp
    · simp only [Bool.not_true, Bool.false_eq_true, if_false, not_true_eq_false];by_cases hr : ((0 ≤ now ∧ now ≤ 1000000000000) ∧ (0 ≤ ov ∧ ov ≤ 1000000000) ∧ (1 ≤ span ∧ span ≤ 1000000000) ∧ now + span ≤ 1000000000000)
      · rw [if_neg z4, if_neg z4, if_neg z4, if_neg z4, if_neg z4, if_neg z4, if_neg z4, if_neg (not_not_intro hr)];have e := Pj l key now ov span (l.length + 1) 0 [] 1 z4;simp only [kQ];rw [List.drop_zero, List.nil_append] at e;have e1 := congrArg Prod.fst e;have e2 := congrArg Prod.snd e;simp only at e1 e2;rw [e1, e2];simp only [List.length_append, List.length_cons, List.length_nil];by_cases h7 : 4 < (l.filterMap (Ip now ov)).length + 1
        · rw [if_pos z4, if_pos (.inl h7)]
        · rw [if_neg z4];by_cases h8 : 1000000000 < idC 1 l
          · rw [if_pos h8, if_pos (.inr h8)]
          · rw [if_neg h8, if_neg (by simp [h7, h8])]
      · rw [if_pos hr]
        repeat' split
        all_goals first | rfl | omega
theorem M5 : ∀ (l : List Bs) (i : Int), (∀ c ∈ l, i ≤ c.id) → l.Pairwise (fun a b => a.id < b.id) → i ≤ idC i l ∧ ∀ c ∈ l, c.id < idC i l
  | [], i, _, _ => ⟨Int.le_refl _, nofun⟩
  | c :: r, i, h, hp => by
    rw [List.pairwise_cons] at hp;have h1 := h c List.mem_cons_self;obtain ⟨g1, g2⟩ := M5 r (c.id + 1) (fun d hd => by have := hp.1 d hd; omega) hp.2;show i ≤ idC (c.id + 1) r ∧ ∀ d ∈ c :: r, d.id < idC (c.id + 1) r
    refine ⟨by omega, fun d hd => ?_⟩;rcases List.mem_cons.1 hd with rfl | hd
    · omega
    · exact g2 d hd
theorem Tn.idC {l : List Bs} (h : Tn l) : 1 ≤ idC 1 l ∧ ∀ c ∈ l, c.id < Jd.idC 1 l :=
  M5 l 1 (fun c hc => (h.2.1 c hc).1.1) h.2.2
theorem Rq {now ov : Int} {c d : Bs} : Ip now ov c = some d ↔ now < c.to ∧ c.frm < Hh now ov c ∧ d = ⟨c.id, c.key, c.frm, Hh now ov c⟩ := by
  unfold Ip;split
  · simp; omega
  · split
    · simp; constructor
      · rintro rfl; exact ⟨by omega, by assumption, rfl⟩
      · rintro ⟨_, _, rfl⟩; rfl
    · simp; omega
theorem yQ {now ov : Int} {c : Bs} : Hh now ov c ≤ c.to ∧ Hh now ov c ≤ now + ov ∧ (Hh now ov c = c.to ∨ Hh now ov c = now + ov) := by
  unfold Hh; split <;> omega
structure pE (l : List Bs) (key : Az) (now ov span : Int) : Prop where
  right : Tn l
  kk : 1 ≤ key.length ∧ key.length ≤ 64
  nn : 0 ≤ now ∧ now ≤ 1000000000000
  oo : 0 ≤ ov ∧ ov ≤ 1000000000
  ss : 1 ≤ span ∧ span ≤ 1000000000
  sum : now + span ≤ 1000000000000
  few : (l.filterMap (Ip now ov)).length + 1 ≤ 4
  id : idC 1 l ≤ 1000000000
  out : (Em l key now ov span).1 = l.filterMap (Ip now ov) ++ [⟨idC 1 l, key, now, now + span⟩]
  idv : (Em l key now ov span).2.1 = idC 1 l
theorem M6 {l : List Bs} {key : Az} {now ov span : Int} (h : (Em l key now ov span).2.2 = 0) : pE l key now ov span := by
  have e := uO l key now ov span;unfold AB9 at e;split at e
  · rw [e] at h; simp at h
  · rename_i h1
    split at e
    · rw [e] at h; simp at h
    · rename_i h2
      split at e
      · rw [e] at h; simp at h
      · rename_i h3
        split at e
        · rw [e] at h; simp at h
        · rename_i h4
          have h3' := Classical.not_not.1 h3;obtain ⟨a1, a2, a3, a4⟩ := h3';exact ⟨Lf.1 (Classical.not_not.1 h1), eG.1 (Classical.not_not.1 h2), a1, a2, a3, a4, by omega, by omega, by rw [e], by rw [e]⟩
variable {l : List Bs} {key : Az} {now ov span : Int}
theorem pE.mem (h : pE l key now ov span) {d : Bs} : d ∈ (Em l key now ov span).1 ↔ (∃ c ∈ l, Ip now ov c = some d) ∨ d = ⟨idC 1 l, key, now, now + span⟩ := by
  rw [h.out, List.mem_append, List.mem_filterMap];simp
theorem pE.isRight (h : pE l key now ov span) : Tn (Em l key now ov span).1 := by
  have hid := h.right.idC;refine ⟨?_, fun d hd => ?_, ?_⟩
  · rw [h.out, List.length_append]; have := h.few; simp; omega
  · rcases h.mem.1 hd with ⟨c, hc, ht⟩ | rfl
    · obtain ⟨t1, t2, rfl⟩ := Rq.1 ht;obtain ⟨g1, g2, g3, g4, g5⟩ := h.right.2.1 c hc;have := @yQ now ov c;exact ⟨g1, g2, g3, t2, by show Hh now ov c ≤ _; omega⟩
    · have := h.id; have := h.sum; have := h.ss; have := h.nn;exact ⟨⟨hid.1, h.id⟩, h.kk, h.nn.1, by show now < now + span; omega, h.sum⟩
  · rw [h.out, List.pairwise_append];refine ⟨?_, List.pairwise_singleton _ _, fun a ha b hb => ?_⟩
    · refine List.Pairwise.filterMap _ (fun a a' haa b hb b' hb' => ?_) h.right.2.2;obtain ⟨_, _, rfl⟩ := Rq.1 hb;obtain ⟨_, _, rfl⟩ := Rq.1 hb';exact haa
    · obtain ⟨c, hc, ht⟩ := List.mem_filterMap.1 ha;obtain ⟨_, _, rfl⟩ := Rq.1 ht;have : b = ⟨Jd.idC 1 l, key, now, now + span⟩ := by simpa using hb
      subst this;exact hid.2 c hc
end Go.Proofs.YtopjaeoklkpcpaaGreatDoor.Jd

namespace Go.Proofs.YtopjaeoklkpcpaaGreatDoor.Jd
open Go.Proofs.Tryz
set_option linter.unusedVariables false
set_option linter.unusedSimpArgs false
def Hs (r : Ab) (e : Int) : Ab × Cs := (xR r, Cs.mk e (r.seq + 1) (Handle.mk 0 0) 0 0)
def noR : Ab × Cs := (Ab.mk (Slots.mk [] [] []) [] 0, Cs.mk 150 0 (Handle.mk 0 0) 0 0)
def Wm (t : Aa) (c : Ak) (now : Int) : Aa × Int :=
  if c.verb = 2 then (Aa.mk t.handle t.name 2 (t.version + 1) t.rules t.creds 0, if t.state = 2 then 156 else 0)
  else if c.verb = 3 then (Aa.mk t.handle t.name 1 (t.version + 1) t.rules t.creds 0, if t.state = 2 then 0 else 156)
  else if c.verb = 4 then (Aa.mk t.handle t.name 3 (t.version + 1) t.rules t.creds (now + c.n), if t.state = 1 then (if c.n < 1 ∨ 1000000000 < c.n ∨ 1000000000000 < now + c.n then 2 else 0) else 156)
  else if c.verb = 6 then (Aa.mk t.handle t.name t.state (t.version + 1) t.rules (Em t.creds c.key now c.n c.m).1 t.deadline, (Em t.creds c.key now c.n c.m).2.2)
  else if 0 ≤ c.at_ then (Aa.mk t.handle t.name t.state (t.version + 1) (Cg t.rules c.at_ c.rule).1 t.creds t.deadline, (Cg t.rules c.at_ c.rule).2)
  else (Aa.mk t.handle t.name t.state (t.version + 1) (Ci t.rules (IntKind.wrap .i64 (0 - (c.at_ + 1)))).1 t.creds t.deadline, (Ci t.rules (IntKind.wrap .i64 (0 - (c.at_ + 1)))).2)
def sM (r : Ab) (c : Ak) (now : Int) : Aa := Aa.mk (Cl r.slots).2.1 c.name 1 1 [] (Em [] c.key now 0 c.n).1 0
def cZ (r : Ab) (c : Ak) (now : Int) (i : Int) (t : Aa) : Ab × Cs :=
  if c.verb = 5 then (Ab.mk (Gb r.slots t.handle).1 (delL r.l i.toNat (i + 1).toNat) (r.seq + 1), Cs.mk 0 (r.seq + 1) t.handle (t.version + 1) t.state)
  else if c.verb = 8 ∨ c.verb = 10 then (xR r, Cs.mk 0 (r.seq + 1) t.handle t.version t.state)
  else if (Wm t c now).2 ≠ 0 then Hs r (Wm t c now).2
  else (Ab.mk r.slots (Ge r.l (Wm t c now).1) (r.seq + 1), Cs.mk 0 (r.seq + 1) t.handle (t.version + 1) (Wm t c now).1.state)
def doD (r : Ab) (c : Ak) (now : Int) : Ab × Cs :=
  if c.verb = 1 then
    if Ho c.name = true then
      if (Ap r c.name).2 = true then Hs r 153
      else if (Cl r.slots).2.2 ≠ 0 then Hs r (Cl r.slots).2.2
      else if (Em [] c.key now 0 c.n).2.2 ≠ 0 then Hs r (Em [] c.key now 0 c.n).2.2
      else (Ab.mk (Cl r.slots).1 (Ge r.l (sM r c now)) (r.seq + 1), Cs.mk 0 (r.seq + 1) (Cl r.slots).2.1 1 1)
    else Hs r 152
  else if c.verb = 9 then Hs r 0
  else if (Ap r c.name).2 = true then
    if c.want ≠ 0 ∧ c.want ≠ (r.l.getD (Ap r c.name).1.toNat default).version then Hs r 155
    else cZ r c now (Ap r c.name).1 (r.l.getD (Ap r c.name).1.toNat default)
  else Hs r 154
theorem Zr (r : Ab) (name : Az) : ∀ n i, Ea (xR r) name n i = Ea r name n i
  | 0, i => rfl
  | n + 1, i => by unfold Ea; rw [Zr r name n (i + 1)]
theorem Qt (r : Ab) (name : Az) : Ap (xR r) name = Ap r name := by
  unfold Ap; rw [Zr]
theorem fK {r : Ab} {role : Int} {c : Ak} {now : Int} (h : ¬ (Gj r = true ∧ r.seq < 1000000000000 ∧ 0 ≤ now ∧ now ≤ 1000000000000)) : Aq r role c now = noR := by
  unfold Aq;cases hr : Gj r with
  | false => rfl
  | true =>
    simp only [Bool.not_true, Bool.false_eq_true, if_false];by_cases h2 : 1000000000000 ≤ r.seq
    · rw [if_pos h2]; rfl
    rw [if_neg h2];by_cases h3 : now < 0
    · rw [if_pos h3]; rfl
    rw [if_neg h3];by_cases h4 : 1000000000000 < now
    · rw [if_pos h4]; rfl
    exact absurd ⟨hr, by omega, by omega, by omega⟩ h
theorem fL {r : Ab} {role : Int} {c : Ak} {now : Int} (h : Gj r = true ∧ r.seq < 1000000000000 ∧ 0 ≤ now ∧ now ≤ 1000000000000) (hm : Mm role c.verb = false) : Aq r role c now = Hs r 151 := by
  unfold Aq;rw [h.1, if_neg Gu, if_neg z4, if_neg z4, if_neg z4, hm]; rfl
theorem jK {r : Ab} {role : Int} {c : Ak} {now : Int} (h : Gj r = true ∧ r.seq < 1000000000000 ∧ 0 ≤ now ∧ now ≤ 1000000000000) (hm : Mm role c.verb = true) : Aq r role c now = doD r c now := by
  have hv := Zj hm;unfold Aq doD;rw [h.1, if_neg Gu, if_neg z4, if_neg z4, if_neg z4, hm, if_neg Gu];by_cases v1 : c.verb = 1
  · rw [if_pos v1, if_pos v1, Qt];cases hn : Ho c.name with
    | false => rfl
    | true =>
      simp only [Bool.not_true, Bool.false_eq_true, if_false, if_true, Ie];by_cases hp : (Ap r c.name).2 = true
      · rw [if_pos hp, if_pos hp]; rfl
      rw [if_neg hp, if_neg hp];by_cases e1 : (Cl r.slots).2.2 ≠ 0
      · rw [if_pos e1, if_pos e1]; rfl
      rw [if_neg e1, if_neg e1];by_cases e2 : (Em [] c.key now 0 c.n).2.2 ≠ 0
      · rw [if_pos e2, if_pos e2]; rfl
      rw [if_neg e2, if_neg e2]; rfl
  rw [if_neg v1, if_neg v1];by_cases v9 : c.verb = 9
  · rw [if_pos v9, if_pos v9]; rfl
  rw [if_neg v9, if_neg v9];have eN : xN r c = (Ap r c.name).1.toNat := by show (Ap (xR r) c.name).1.toNat = _; rw [Qt]
  have eA : xA r c = r.l.getD (Ap r c.name).1.toNat default := by show r.l.getD (xN r c) default = _; rw [eN]
  rw [eA, Qt];generalize r.l.getD (Ap r c.name).1.toNat default = t;cases hp : (Ap r c.name).2 with
  | false => rfl
  | true =>
    simp only [Bool.not_true, Bool.false_eq_true, if_false, if_true, Ie, Iz];by_cases w0 : c.want ≠ 0 ∧ c.want ≠ t.version
    · rw [if_pos w0, if_pos (by rw [if_pos w0.1]; simpa using w0.2)]; rfl
    rw [if_neg w0, if_neg (by
      by_cases w1 : c.want = 0
      · rw [if_neg (by simp [w1])]; simp
      · rw [if_pos w1]; simp; exact Classical.byContradiction fun w2 => w0 ⟨w1, w2⟩)]
    unfold cZ Wm;by_cases v2 : c.verb = 2
    · rw [if_pos v2, if_neg (show ¬ c.verb = 5 by omega), if_neg (show ¬ (c.verb = 8 ∨ c.verb = 10) by omega), if_pos v2];by_cases s2 : t.state = 2
      · rw [if_pos (by simp [s2])]; simp [s2, Hs]
      · rw [if_neg (by simp [s2])]; simp [s2]
    rw [if_neg v2];by_cases v3 : c.verb = 3
    · rw [if_pos v3, if_neg (show ¬ c.verb = 5 by omega), if_neg (show ¬ (c.verb = 8 ∨ c.verb = 10) by omega), if_neg v2, if_pos v3];by_cases s2 : t.state = 2
      · rw [if_neg (by simp [s2])]; simp [s2]
      · rw [if_pos (by simp [s2])]; simp [s2, Hs]
    rw [if_neg v3];by_cases v4 : c.verb = 4
    · rw [if_pos v4, if_neg (show ¬ c.verb = 5 by omega), if_neg (show ¬ (c.verb = 8 ∨ c.verb = 10) by omega), if_neg v2, if_neg v3, if_pos v4];by_cases s2 : t.state = 1
      · rw [if_neg (by simp [s2])];simp only [s2, if_true];by_cases n1 : c.n < 1
        · rw [if_pos n1]; simp only [if_pos (show c.n < 1 ∨ 1000000000 < c.n ∨ 1000000000000 < now + c.n by omega)]; rw [if_pos Gn]; rfl
        rw [if_neg n1];by_cases n2 : 1000000000 < c.n
        · rw [if_pos n2]; simp only [if_pos (show c.n < 1 ∨ 1000000000 < c.n ∨ 1000000000000 < now + c.n by omega)]; rw [if_pos Gn]; rfl
        rw [if_neg n2];by_cases n3 : 1000000000000 < now + c.n
        · rw [if_pos n3]; simp only [if_pos (show c.n < 1 ∨ 1000000000 < c.n ∨ 1000000000000 < now + c.n by omega)]; rw [if_pos Gn]; rfl
        rw [if_neg n3]; simp only [if_neg (show ¬ (c.n < 1 ∨ 1000000000 < c.n ∨ 1000000000000 < now + c.n) by omega)]; rw [if_neg Gn]
      · rw [if_pos (by simp [s2])]; simp [s2, Hs]
    rw [if_neg v4];by_cases v6 : c.verb = 6
    · rw [if_pos v6, if_neg (show ¬ c.verb = 5 by omega), if_neg (show ¬ (c.verb = 8 ∨ c.verb = 10) by omega), if_neg v2, if_neg v3, if_neg v4, if_pos v6]; rfl
    rw [if_neg v6];by_cases v7 : c.verb = 7
    · rw [if_pos v7, if_neg (show ¬ c.verb = 5 by omega), if_neg (show ¬ (c.verb = 8 ∨ c.verb = 10) by omega), if_neg v2, if_neg v3, if_neg v4, if_neg v6];by_cases a0 : 0 ≤ c.at_
      · rw [if_pos a0, if_pos a0]; rfl
      · rw [if_neg a0, if_neg a0]; rfl
    rw [if_neg v7];by_cases v5 : c.verb = 5
    · rw [if_pos v5, if_pos v5]
    rw [if_neg v5, if_neg v5];by_cases v8 : c.verb = 8
    · rw [if_pos v8, if_pos (.inl v8)]
    rw [if_neg v8];by_cases v10 : c.verb = 10
    · rw [if_pos v10, if_pos (.inr v10)]
    omega
/-- A registry that takes a command at a tick. -/
structure zD (r : Ab) (now : Int) : Prop where
  right : Fx r
  lt : r.seq < 1000000000000
  nn : 0 ≤ now ∧ now ≤ 1000000000000
theorem lM {r : Ab} {now : Int} : zD r now ↔ Gj r = true ∧ r.seq < 1000000000000 ∧ 0 ≤ now ∧ now ≤ 1000000000000 :=
  ⟨fun h => ⟨Oh.2 h.right, h.lt, h.nn⟩, fun h => ⟨Oh.1 h.1, h.2.1, h.2.2⟩⟩
/-- What a command comes to. -/
inductive M7 (r : Ab) (role : Int) (c : Ak) (now : Int) : Ab × Cs → Prop where
  | none (h : ¬ zD r now) : M7 r role c now noR
  | fail (h : zD r now) (e : Int) (h0 : e ≠ 0) (h1 : e ≠ 150) : M7 r role c now (Hs r e)
  | new (h : zD r now) (hm : Mm role c.verb = true) (hv : c.verb = 1) (hn : Ho c.name = true) (hf : ∀ t ∈ r.l, t.name ≠ c.name) (h1 : (Cl r.slots).2.2 = 0) (h2 : (Em [] c.key now 0 c.n).2.2 = 0) : M7 r role c now (Ab.mk (Cl r.slots).1 (Ge r.l (sM r c now)) (r.seq + 1), Cs.mk 0 (r.seq + 1) (Cl r.slots).2.1 1 1)
  | list (h : zD r now) (hm : Mm role c.verb = true) (hv : c.verb = 9) : M7 r role c now (Hs r 0)
  | del (h : zD r now) (hm : Mm role c.verb = true) (hv : c.verb = 5) (i : Nat) (hi : i < r.l.length) (hn : (r.l.getD i default).name = c.name) (hw : c.want = 0 ∨ c.want = (r.l.getD i default).version) : M7 r role c now (Ab.mk (Gb r.slots (r.l.getD i default).handle).1 (delL r.l i (i + 1)) (r.seq + 1), Cs.mk 0 (r.seq + 1) (r.l.getD i default).handle ((r.l.getD i default).version + 1) (r.l.getD i default).state)
  | look (h : zD r now) (hm : Mm role c.verb = true) (hv : c.verb = 8 ∨ c.verb = 10) (i : Nat) (hi : i < r.l.length) (hn : (r.l.getD i default).name = c.name) (hw : c.want = 0 ∨ c.want = (r.l.getD i default).version) : M7 r role c now (xR r, Cs.mk 0 (r.seq + 1) (r.l.getD i default).handle (r.l.getD i default).version (r.l.getD i default).state)
  | put (h : zD r now) (hm : Mm role c.verb = true) (hv : c.verb = 2 ∨ c.verb = 3 ∨ c.verb = 4 ∨ c.verb = 6 ∨ c.verb = 7) (i : Nat) (hi : i < r.l.length) (hn : (r.l.getD i default).name = c.name) (hw : c.want = 0 ∨ c.want = (r.l.getD i default).version) (hc : (Wm (r.l.getD i default) c now).2 = 0) (hs : Fx ⟨r.slots, r.l.set i (Wm (r.l.getD i default) c now).1, r.seq + 1⟩) : M7 r role c now (Ab.mk r.slots (r.l.set i (Wm (r.l.getD i default) c now).1) (r.seq + 1), Cs.mk 0 (r.seq + 1) (r.l.getD i default).handle ((r.l.getD i default).version + 1) (Wm (r.l.getD i default) c now).1.state)
theorem M8 (t : Aa) (c : Ak) (now : Int) : (Wm t c now).1.name = t.name ∧ (Wm t c now).1.handle = t.handle ∧ (Wm t c now).1.version = t.version + 1 := by
  unfold Wm
  repeat' split
  all_goals exact ⟨rfl, rfl, rfl⟩
theorem lN (l : List Bf) (a : Int) : ((Ci l a).2 ≠ 0 ∧ (Ci l a).1 = []) ∨ (Fm l = true ∧ 0 ≤ a ∧ a < l.length ∧ Ci l a = (delL l a.toNat (a + 1).toNat, 0) ∧ Fm (delL l a.toNat (a + 1).toNat) = true) := by
  unfold Ci;cases h1 : Fm l with
  | false => exact .inl Gu
  | true =>
    simp only [Bool.not_true, Bool.false_eq_true, if_false];by_cases h2 : a < 0
    · rw [if_pos h2]; exact .inl Gu
    rw [if_neg h2];by_cases h3 : ((l.length : Nat) : Int) ≤ a
    · rw [if_pos h3]; exact .inl Gu
    rw [if_neg h3];have e : (a + 1).toNat = a.toNat + 1 := by omega
    refine .inr ⟨trivial, by omega, by omega, rfl, ?_⟩;rw [e];obtain ⟨g1, g2⟩ := Mz.1 h1;exact Mz.2 ⟨Nat.le_trans (Uh l a.toNat).length_le g1, fun r hr => g2 r ((Uh l a.toNat).subset hr)⟩
theorem AN9 {t : Aa} {c : Ak} {now seq : Int} (hn : 0 ≤ now ∧ now ≤ 1000000000000) (ht : Og seq t) (hs : 0 ≤ seq) (he : (Wm t c now).2 = 0) : Og (seq + 1) (Wm t c now).1 := by
  have hver : 1 ≤ t.version + 1 ∧ t.version + 1 ≤ seq + 1 := by have := ht.version; omega
  unfold Wm at he ⊢;by_cases v2 : c.verb = 2
  · rw [if_pos v2]; exact ⟨ht.name, hver, (show (1 : Int) ≤ 2 ∧ (2 : Int) ≤ 3 by decide), (show (0 : Int) ≤ 0 ∧ (0 : Int) ≤ 1000000000000 by decide), .inl rfl, ht.rules, ht.creds⟩
  rw [if_neg v2] at he ⊢;by_cases v3 : c.verb = 3
  · rw [if_pos v3]; exact ⟨ht.name, hver, (show (1 : Int) ≤ 1 ∧ (1 : Int) ≤ 3 by decide), (show (0 : Int) ≤ 0 ∧ (0 : Int) ≤ 1000000000000 by decide), .inl rfl, ht.rules, ht.creds⟩
  rw [if_neg v3] at he ⊢;by_cases v4 : c.verb = 4
  · rw [if_pos v4] at he ⊢;simp only at he;split at he
    · split at he
      · cases he
      · exact ⟨ht.name, hver, (by decide : (1 : Int) ≤ 3 ∧ (3 : Int) ≤ 3), ⟨by show 0 ≤ now + c.n; omega, by show now + c.n ≤ _; omega⟩, .inr rfl, ht.rules, ht.creds⟩
    · cases he
  rw [if_neg v4] at he ⊢;by_cases v6 : c.verb = 6
  · rw [if_pos v6] at he ⊢;exact ⟨ht.name, hver, ht.state, ht.deadline, ht.drains, ht.rules, Lf.2 (M6 he).isRight⟩
  rw [if_neg v6] at he ⊢;by_cases a0 : 0 ≤ c.at_
  · rw [if_pos a0] at he ⊢;rcases lK t.rules c.at_ c.rule with ⟨h1, _⟩ | ⟨_, _, _, _, _, h1, h2⟩
    · exact absurd he h1
    · exact ⟨ht.name, hver, ht.state, ht.deadline, ht.drains, by show Fm (Cg _ _ _).1 = true; rw [h1]; exact h2, ht.creds⟩
  · rw [if_neg a0] at he ⊢;rcases lN t.rules (IntKind.wrap .i64 (0 - (c.at_ + 1))) with ⟨h1, _⟩ | ⟨_, _, _, h1, h2⟩
    · exact absurd he h1
    · exact ⟨ht.name, hver, ht.state, ht.deadline, ht.drains, by show Fm (Ci _ _).1 = true; rw [h1]; exact h2, ht.creds⟩
theorem AO0 {r : Ab} {c : Ak} {now : Int} (h : zD r now) (hn : Ho c.name = true) (hf : ∀ t ∈ r.l, t.name ≠ c.name) (h1 : (Cl r.slots).2.2 = 0) (h2 : (Em [] c.key now 0 c.n).2.2 = 0) : (Ge r.l (sM r c now)).Perm (sM r c now :: r.l) ∧ Fx ⟨(Cl r.slots).1, Ge r.l (sM r c now), r.seq + 1⟩ :=
  h.right.new h.lt h1 rfl hf ⟨hn, ⟨(show (1 : Int) ≤ 1 by decide), by have := h.right.seq; show (1 : Int) ≤ r.seq + 1; omega⟩, (show (1 : Int) ≤ 1 ∧ (1 : Int) ≤ 3 by decide), (show (0 : Int) ≤ 0 ∧ (0 : Int) ≤ 1000000000000 by decide), .inl rfl, by rfl, Lf.2 (M6 h2).isRight⟩
section
variable {r : Ab} {role : Int} {c : Ak} {now : Int} {x : Ab × Cs}
theorem M7.right (h : M7 r role c now x) (he : x.2.err ≠ 150) : zD r now ∧ Fx x.1 ∧ x.1.seq = r.seq + 1 ∧ x.2.seq = r.seq + 1 := by
  cases h with
  | none h => exact absurd rfl he
  | fail h e h0 h1 => exact ⟨h, h.right.next h.lt, rfl, rfl⟩
  | new h hm hv hn hf h1 h2 => exact ⟨h, (AO0 h hn hf h1 h2).2, rfl, rfl⟩
  | list h hm hv => exact ⟨h, h.right.next h.lt, rfl, rfl⟩
  | del h hm hv i hi hn hw => exact ⟨h, h.right.del h.lt hi, rfl, rfl⟩
  | look h hm hv i hi hn hw => exact ⟨h, h.right.next h.lt, rfl, rfl⟩
  | put h hm hv i hi hn hw hc hs => exact ⟨h, hs, rfl, rfl⟩
theorem M7.err (h : M7 r role c now x) (he : x.2.err ≠ 150) (h0 : x.2.err ≠ 0) : zD r now ∧ x = Hs r x.2.err := by
  cases h with
  | none h => exact absurd rfl he
  | fail h e h0 h1 => exact ⟨h, rfl⟩
  | new h hm hv hn hf h1 h2 => exact absurd rfl h0
  | list h hm hv => exact absurd rfl h0
  | del h hm hv i hi hn hw => exact absurd rfl h0
  | look h hm hv i hi hn hw => exact absurd rfl h0
  | put h hm hv i hi hn hw hc hs => exact absurd rfl h0
end
end Go.Proofs.YtopjaeoklkpcpaaGreatDoor.Jd

namespace Go.Proofs.YtopjaeoklkpcpaaGreatDoor.Jd
open Go.Proofs.Tryz
open Go.Proofs
set_option linter.unusedVariables false
set_option linter.unusedSimpArgs false
set_option maxRecDepth 100000
theorem sN (r : Ab) (role : Int) (c : Ak) (now : Int) : Ee r role c now = Aq r role c now := by
  by_cases h : Gj r = true ∧ r.seq < 1000000000000 ∧ 0 ≤ now ∧ now ≤ 1000000000000
  · cases hm : Mm role c.verb with
    | false =>
      rw [fL h hm];unfold Ee;rw [h.1, if_neg Gu, if_neg z4, if_neg z4, if_neg z4, hm]; rfl
    | true =>
      rw [jK h hm];unfold Ee;rw [h.1, if_neg Gu, if_neg z4, if_neg z4, if_neg z4, hm, if_neg Gu];have hv := Zj hm;unfold doD cZ Wm Hs sM;simp only [Ie, Iz, V3, tM, xA, xN, Qt];generalize r.l.getD (Ap r c.name).1.toNat default = t;generalize Ap r c.name = p;obtain hv | hv | hv | hv | hv | hv | hv | hv | hv | hv : c.verb = 1 ∨ c.verb = 2 ∨ c.verb = 3 ∨ c.verb = 4 ∨ c.verb = 5 ∨ c.verb = 6 ∨ c.verb = 7 ∨ c.verb = 8 ∨ c.verb = 9 ∨ c.verb = 10 := by omega
      all_goals simp only [hv, Int.reduceEq, if_false, if_true, reduceIte, false_or, or_false, or_true, true_or, or_self]
      · cases Ho c.name <;> simp
        cases p.2 <;> simp
        by_cases h1 : (Cl r.slots).2.2 = 0 <;> simp [h1]
        by_cases h2 : (Em [] c.key now 0 c.n).2.2 = 0 <;> simp [h2]
      · cases p.2 <;> simp
        by_cases h1 : c.want = 0 <;> by_cases h2 : c.want = t.version <;> by_cases h3 : t.state = 2 <;> simp [h1, h2, h3] <;> simp_all
      · cases p.2 <;> simp
        by_cases h1 : c.want = 0 <;> by_cases h2 : c.want = t.version <;> by_cases h3 : t.state = 2 <;> simp [h1, h2, h3] <;> simp_all
      · cases p.2 <;> simp
        by_cases h1 : c.want = 0 <;> by_cases h2 : c.want = t.version <;> by_cases h3 : t.state = 1 <;> by_cases h4 : c.n < 1 <;> by_cases h5 : 1000000000 < c.n <;> by_cases h6 : 1000000000000 < now + c.n <;> simp [h1, h2, h3, h4, h5, h6] <;> simp_all
      · cases p.2 <;> simp
        by_cases h1 : c.want = 0 <;> by_cases h2 : c.want = t.version <;> simp [h1, h2] <;> simp_all
      · cases p.2 <;> simp
        by_cases h1 : c.want = 0 <;> by_cases h2 : c.want = t.version <;> by_cases h3 : (Em t.creds c.key now c.n c.m).2.2 = 0 <;> simp [h1, h2, h3] <;> simp_all
      · cases p.2 <;> simp
        by_cases h1 : c.want = 0 <;> by_cases h2 : c.want = t.version <;> by_cases h3 : 0 ≤ c.at_ <;> by_cases h4 : (Cg t.rules c.at_ c.rule).2 = 0 <;> by_cases h5 : (Ci t.rules (IntKind.wrap .i64 (0 - (c.at_ + 1)))).2 = 0 <;> simp [h1, h2, h3, h4, h5] <;> simp_all
      · cases p.2 <;> simp
        by_cases h1 : c.want = 0 <;> by_cases h2 : c.want = t.version <;> simp [h1, h2] <;> simp_all
      · rfl
      · cases p.2 <;> simp
        by_cases h1 : c.want = 0 <;> by_cases h2 : c.want = t.version <;> simp [h1, h2] <;> simp_all
  · rw [fK h];unfold Ee;cases hr : Gj r with
    | false => rfl
    | true =>
      simp only [Bool.not_true, Bool.false_eq_true, if_false];by_cases h2 : 1000000000000 ≤ r.seq
      · rw [if_pos h2]; rfl
      rw [if_neg h2];by_cases h3 : now < 0
      · rw [if_pos h3]; rfl
      rw [if_neg h3];by_cases h4 : 1000000000000 < now
      · rw [if_pos h4]; rfl
      exact absurd ⟨hr, by omega, by omega, by omega⟩ h
end Go.Proofs.YtopjaeoklkpcpaaGreatDoor.Jd

namespace Go.Proofs.YtopjaeoklkpcpaaGreatDoor.Jd
open Go.Proofs.Tryz
open Go.Proofs
open Go.RowKit (Below)
set_option maxRecDepth 100000
set_option maxHeartbeats 8000000
set_option linter.unusedVariables false
set_option linter.unusedSimpArgs false
theorem sO (w : World) {r_Sg_a : Option Addr} {r_Sg_c : Nat} {r_Su_a : Option Addr} {r_Su_c : Nat} {r_Sf_a : Option Addr} {r_Sf_c : Nat} {r_l_a : Option Addr} {r_l_c : Nat} {r_l_t : List TA} {ea0 : Addr} {ea1 : Addr} {ea2 : Addr} {ea3 : Addr} {r : Ab} {role : Int} {c : Ak} {now : Int} (h_r_Sg : Sl w eI 1 r_Sg_a r.slots.gens) (n_r_Sg : r.slots.gens.length ≤ 1000) (h_r_Su : Sl w eB 1 r_Su_a r.slots.used) (n_r_Su : r.slots.used.length ≤ 1000) (h_r_Sf : Sl w eI 1 r_Sf_a r.slots.free) (n_r_Sf : r.slots.free.length ≤ 1000) (h_r_l : Wc w Cn 8 DT r_l_a r.l r_l_t) (n_r_l : r.l.length ≤ 1000) (k_r_l : r.l.length ≤ r_l_c) (i_c_at_ : -9223372036854775808 ≤ c.at_ ∧ c.at_ ≤ 9223372036854775807) (hG : Gl w) (hE : Er w ea0 ea1 ea2 ea3) (hsm : Cv r.l) : Calls Tryz.prog 17 (List.toArray [(Value.agg [(vs r_Sg_a r.slots.gens.length r_Sg_c), (vs r_Su_a r.slots.used.length r_Su_c), (vs r_Sf_a r.slots.free.length r_Sf_c), (vs r_l_a r.l.length r_l_c), (vi r.seq)].toArray), (vi role), (Value.agg [(vi c.verb), (vt c.name), (vi c.want), (vi c.at_), (Value.bool c.rule.allow), (vi c.rule.pfx.addr), (vi c.rule.pfx.bits), (vi c.rule.prt.lo), (vi c.rule.prt.hi), (vt c.key), (vi c.n), (vi c.m)].toArray), (vi now)]) w fun e w2 => ∃ a1 : Option Addr, ∃ c1 : Nat, ∃ a2 : Option Addr, ∃ c2 : Nat, ∃ a3 : Option Addr, ∃ c3 : Nat, ∃ a4 : Option Addr, ∃ c4 : Nat, ∃ t4 : List TA, ∃ B : An, e = .returned (Value.tuple [(Value.agg [(vs a1 ((Ee r role c now).1.slots.gens.length) c1), (vs a2 ((Ee r role c now).1.slots.used.length) c2), (vs a3 ((Ee r role c now).1.slots.free.length) c3), (vs a4 ((Ee r role c now).1.l.length) c4), (vi ((Ee r role c now).1.seq))].toArray), (Value.agg [(vi ((Ee r role c now).2.err)), (vi ((Ee r role c now).2.seq)), (vi ((Ee r role c now).2.handle.slot)), (vi ((Ee r role c now).2.handle.gen)), (vi ((Ee r role c now).2.version)), (vi ((Ee r role c now).2.state))].toArray)].toArray) ∧ Dj w w2 B ∧ Fl B eI 1 a1 (Ee r role c now).1.slots.gens ∧ Fl B eB 1 a2 (Ee r role c now).1.slots.used ∧ Fl B eI 1 a3 (Ee r role c now).1.slots.free ∧ (Dh B Cn 8 DT a4 (Ee r role c now).1.l t4 ∧ (Ee r role c now).1.l.length ≤ c4) ∧ (Ee r role c now).1.slots.gens.length ≤ 1000 ∧ (Ee r role c now).1.slots.used.length ≤ 1000 ∧ (Ee r role c now).1.slots.free.length ≤ 1000 ∧ (Ee r role c now).1.l.length ≤ 1000 := by
 have hF := Is.refl (Ee r role c now);refine enter func17 ntmps17 (h := ?_);refine Z2 ?_;refine Aj Af aW (k := fun r1 p4 => ?_);refine Aj Af N3 (k := fun r2 bv => ?_);refine Aj Af Ln (k := fun r3 iu => ?_);refine Aj Af gX (k := fun r4 jl => ?_);refine Jl ?_;refine sZ ?_;refine Fu (Ai call23) (fun w1 hw1 => iV w1 (r := r) (h_r_Sg := (Bv.of_base h_r_Sg) w1 hw1) (n_r_Sg := by first | omega | (simp; done) | exact (hsm _ z4).1 | exact (hsm _ z4).2) (h_r_Su := (Bv.of_base h_r_Su) w1 hw1) (n_r_Su := by first | omega | (simp; done) | exact (hsm _ z4).1 | exact (hsm _ z4).2) (h_r_Sf := (Bv.of_base h_r_Sf) w1 hw1) (n_r_Sf := by first | omega | (simp; done) | exact (hsm _ z4).1 | exact (hsm _ z4).2) (h_r_l := (Ff.of_base Eo h_r_l).2 w1 hw1) (n_r_l := by first | omega | (simp; done) | exact (hsm _ z4).1 | exact (hsm _ z4).2) (k_r_l := k_r_l) (hsm := by first | omega | (simp; done) | exact (hsm _ z4).1 | exact (hsm _ z4).2)) (k := ?_);refine mP ?_;refine Dq 18 rfl (fun a9 => ?_) (fun a9 => ?_)
 ·refine Ag 3 rfl ?_;refine Sv ?_;refine Sv ?_;refine Ss ?_;refine lU ?_;refine gY ?_;refine hJ ?_;refine Eg ?_;refine Ad results17 z27 (fun w1 hw1 => ?_);exact ⟨none, 0, none, 0, none, 0, none, 0, [], [], (rq (hF.t a9)), (hw1.fresh_out.sub Gx), (rn (hF.t a9)), (rn (hF.t a9)), (rn (hF.t a9)), (by rw [(hF.t a9).eq]; exact ⟨Dh.nil, by first | (simp; done) | exact Nat.le_of_eq rfl⟩), (rl (hF.t a9)), (rl (hF.t a9)), (rl (hF.t a9)), (rl (hF.t a9))⟩
 have hfhq1 := Zk pO;refine mG ?_;refine Ay Kn (k := ?_);refine Pz ?_;refine Ar 23 rfl (fun b9 => ?_) (fun b9 => ?_)
 ·refine Ag 2 rfl ?_;refine Sv ?_;refine Ss ?_;refine lU ?_;refine gY ?_;refine hJ ?_;refine Eg ?_;refine Ad results17 z27 (fun w1 hw1 => ?_);exact ⟨none, 0, none, 0, none, 0, none, 0, [], [], (rq ((hF.f a9).pos b9)), (hw1.fresh_out.sub Gx), (rn ((hF.f a9).pos b9)), (rn ((hF.f a9).pos b9)), (rn ((hF.f a9).pos b9)), (by rw [((hF.f a9).pos b9).eq]; exact ⟨Dh.nil, by first | (simp; done) | exact Nat.le_of_eq rfl⟩), (rl ((hF.f a9).pos b9)), (rl ((hF.f a9).pos b9)), (rl ((hF.f a9).pos b9)), (rl ((hF.f a9).pos b9))⟩
 refine qF ?_;refine Pz ?_;refine Ar 27 rfl (fun c7 => ?_) (fun c7 => ?_)
 ·refine Ag 2 rfl ?_;refine Ss ?_;refine lU ?_;refine gY ?_;refine hJ ?_;refine Eg ?_;refine Ad results17 z27 (fun w1 hw1 => ?_);exact ⟨none, 0, none, 0, none, 0, none, 0, [], [], (rq (((hF.f a9).neg b9).pos c7)), (hw1.fresh_out.sub Gx), (rn (((hF.f a9).neg b9).pos c7)), (rn (((hF.f a9).neg b9).pos c7)), (rn (((hF.f a9).neg b9).pos c7)), (by rw [(((hF.f a9).neg b9).pos c7).eq]; exact ⟨Dh.nil, by first | (simp; done) | exact Nat.le_of_eq rfl⟩), (rl (((hF.f a9).neg b9).pos c7)), (rl (((hF.f a9).neg b9).pos c7)), (rl (((hF.f a9).neg b9).pos c7)), (rl (((hF.f a9).neg b9).pos c7))⟩
 refine bT ?_;refine Rt ?_;refine Av rfl (fun c8 => ?_) (fun c8 => ?_)
 ·refine Bp ?_;refine Ch ?_;refine lU ?_;refine gY ?_;refine hJ ?_;refine Eg ?_;refine Ad results17 z27 (fun w1 hw1 => ?_);exact ⟨none, 0, none, 0, none, 0, none, 0, [], [], (rq ((((hF.f a9).neg b9).neg c7).pos c8)), (hw1.fresh_out.sub Gx), (rn ((((hF.f a9).neg b9).neg c7).pos c8)), (rn ((((hF.f a9).neg b9).neg c7).pos c8)), (rn ((((hF.f a9).neg b9).neg c7).pos c8)), (by rw [((((hF.f a9).neg b9).neg c7).pos c8).eq]; exact ⟨Dh.nil, by first | (simp; done) | exact Nat.le_of_eq rfl⟩), (rl ((((hF.f a9).neg b9).neg c7).pos c8)), (rl ((((hF.f a9).neg b9).neg c7).pos c8)), (rl ((((hF.f a9).neg b9).neg c7).pos c8)), (rl ((((hF.f a9).neg b9).neg c7).pos c8))⟩
 refine Xv ?_;refine sZ ?_;refine Hd (Ai call39) (fun w1 hw1 => J7 w1 (r := r) (h_r_Sg := (Bv.of_base h_r_Sg) w1 hw1) (n_r_Sg := by first | omega | (simp; done) | exact (hsm _ z4).1 | exact (hsm _ z4).2) (h_r_Su := (Bv.of_base h_r_Su) w1 hw1) (n_r_Su := by first | omega | (simp; done) | exact (hsm _ z4).1 | exact (hsm _ z4).2) (h_r_Sf := (Bv.of_base h_r_Sf) w1 hw1) (n_r_Sf := by first | omega | (simp; done) | exact (hsm _ z4).1 | exact (hsm _ z4).2) (h_r_l := (Ff.of_base Eo h_r_l).2 w1 hw1) (n_r_l := by first | omega | (simp; done) | exact (hsm _ z4).1 | exact (hsm _ z4).2) (k_r_l := k_r_l) (hsm := by first | omega | (simp; done) | exact (hsm _ z4).1 | exact (hsm _ z4).2)) (k := ?_);rintro cy cr cz l9 ⟨i5, d6, o5, o6, q9, t5, ae, af, d9, m1, p9, y6, c6, p5, p6, c9, fx, tu, tv, a10⟩;refine ⟨_, _, p9, l9.fresh y6, ?_⟩;refine kG ?_;refine Pl ?_;refine zP ?_;refine Wx ?_;refine Ah (Al Mw) (k := ?_);refine Gv (Bw (l' := [_, _, _, _, _]) sizeOf3) (k := ?_);refine Jl ?_;refine Z5 ?_;refine mL ?_;refine Fu (Ai call40) (fun w1 hw1 => I4 w1 (n_ := role) (v := c.verb) (hG := hG.ext hw1.ext_out) (hE := hE.ext hw1.ext_out)) (k := ?_);refine Zu ?_;refine Cx rfl (fun d5 => ?_) (fun d5 => ?_)
 ·refine Bp ?_;refine Ex _ _ (vp ((qc q0).trans (qa (qc q0))) (nC (nC nE))) Cy 6 [(true, 0), (true, 1), (true, 2), (true, 3), (false, 4), (false, 5)] z5 ?_;refine cD ?_;refine AI4 ?_;refine AF8 ?_;refine Kz ?_;refine pY ?_;refine Eg ?_;refine Ad results17 z27 (fun w1 hw1 => ?_);exact ⟨i5, d6, o5, o6, q9, t5, ae, af, d9, m1, (rq (((((hF.f a9).neg b9).neg c7).neg c8).t d5)), (Bd (L := m1) (hw1.perm (qb (qb q0))) rfl.symm), (by rw [(((((hF.f a9).neg b9).neg c7).neg c8).t d5).eq]; exact (c6.mono yX)), (by rw [(((((hF.f a9).neg b9).neg c7).neg c8).t d5).eq]; exact (p5.mono yX)), (by rw [(((((hF.f a9).neg b9).neg c7).neg c8).t d5).eq]; exact (p6.mono yX)), (by rw [(((((hF.f a9).neg b9).neg c7).neg c8).t d5).eq]; exact ⟨(c9.1.mono sh), c9.2⟩), (rl (((((hF.f a9).neg b9).neg c7).neg c8).t d5)), (rl (((((hF.f a9).neg b9).neg c7).neg c8).t d5)), (rl (((((hF.f a9).neg b9).neg c7).neg c8).t d5)), (rl (((((hF.f a9).neg b9).neg c7).neg c8).t d5))⟩
 have hfhq5 := Zj (by simpa using d5);refine Kx ?_;refine F6 (σ1 := Bool) (σ2 := Int) (σ3 := Int) (σ4 := Int) (σ5 := Az) (σ6 := Int) (σ7 := Int) (σ8 := List Bf) (σ9 := Option Addr) (σ10 := Nat) (σ11 := List Bs) (σ12 := Option Addr) (σ13 := Nat) (σ14 := Int) (σ15 := List Int) (σ16 := Option Addr) (σ17 := Nat) (σ18 := List Bool) (σ19 := Option Addr) (σ20 := Nat) (σ21 := List Int) (σ22 := Option Addr) (σ23 := Nat) (σ24 := List Aa) (σ25 := List TA) (σ26 := Option Addr) (σ27 := Nat) (σ28 := An) (σ29 := Nat) (σ30 := Nat) (fun err_1b err_1 x_2 x_3 x_4 x_5 x_6 x_7 am au x_8 dj ef x_9 x_10 ak aq x_11 dt fd x_12 du fe x_13 jd dv dw n9 ic gc => (n9 ++ ((ic, oc [(vi x_2), (vi x_3), (vt x_4), (vi x_5), (vi x_6), (vs am x_7.length au), (vs dj x_8.length ef), (vi x_9)] 52) :: ((gc, oc [(vs ak x_10.length aq), (vs dt x_11.length fd), (vs du x_12.length fe), (vs dv x_13.length dw), (vi (r.seq + 1))] 28) :: (m1 ++ ((r4, oc [(vi 0), (vi 0), (vi 0), (vi 0), (vi 0), (vi 0)] 44) :: ((r3, oc [(vs none 0 0), (vs none 0 0), (vs none 0 0), (vs none 0 0), (vi 0)] 28) :: ((r2, oc [(vi c.verb), (vt c.name), (vi c.want), (vi c.at_), (Value.bool c.rule.allow), (vi c.rule.pfx.addr), (vi c.rule.pfx.bits), (vi c.rule.prt.lo), (vi c.rule.prt.hi), (vt c.key), (vi c.n), (vi c.m)] 36) :: ((r1, oc [(vs i5 r.slots.gens.length d6), (vs o5 r.slots.used.length o6), (vs q9 r.slots.free.length t5), (vs ae r.l.length af), (vi (r.seq + 1))] 28) :: []))))))))) (fun err_1b err_1 x_2 x_3 x_4 x_5 x_6 x_7 am au x_8 dj ef x_9 x_10 ak aq x_11 dt fd x_12 du fe x_13 jd dv dw n9 ic gc => [(4, (Value.pointer (some ⟨r1, 0, none⟩))), (8, (Value.pointer (some ⟨r3, 0, none⟩))), (9, (Value.pointer (some ⟨r4, 0, none⟩))), (10, (Value.pointer (some ⟨gc, 0, none⟩))), (11, (Value.pointer (some ⟨ic, 0, none⟩))), (12, (wE 120 err_1b err_1))]) (fun err_1b err_1 x_2 x_3 x_4 x_5 x_6 x_7 am au x_8 dj ef x_9 x_10 ak aq x_11 dt fd x_12 du fe x_13 jd dv dw n9 ic gc => Is (Is.xr14 (((((hF.f a9).neg b9).neg c7).neg c8).f d5)) (err_1b, err_1, x_2, x_3, x_4, x_5, x_6, x_7, x_8, x_9, x_10, x_11, x_12, x_13) ∧ Ga (m1 ++ n9) En 5 am au x_7 ∧ Ga (m1 ++ n9) Fy 4 dj ef x_8 ∧ Fl (m1 ++ n9) eI 1 ak x_10 ∧ Fl (m1 ++ n9) eB 1 dt x_11 ∧ Fl (m1 ++ n9) eI 1 du x_12 ∧ (Dh (m1 ++ n9) Cn 8 DT dv x_13 jd ∧ x_13.length ≤ dw) ∧ x_10.length ≤ 1000 ∧ x_11.length ≤ 1000 ∧ x_12.length ≤ 1000 ∧ x_13.length ≤ 1000) ?_ ?_
 ·skip;refine pZ ?_;refine mC ?_;refine Ej (args := [_, _, _]) (Ai call41) func41 ntmps41 ?_;refine Z2 ?_;refine Aj Af aW (k := fun r5 qk => ?_);refine Aj Af N3 (k := fun r6 ql => ?_);refine Aj Af Ln (k := fun r7 xd => ?_);refine Aj Af z8 (k := fun r8 ub => ?_);refine gF ?_;refine mL ?_;refine bY ?_;refine Sg ?_;refine Av rfl (fun d8 => ?_) (fun d8 => ?_)
  ·refine Bp ?_;refine pZ ?_;refine mC ?_;refine Ej (args := [_, _, _]) (Ai call74) func74 ntmps74 ?_;refine Z2 ?_;refine Aj Af aW (k := fun r9 xe => ?_);refine Aj Af N3 (k := fun kr mj => ?_);refine Aj Af Ln (k := fun ui pc => ?_);refine Aj Af z8 (k := fun pk pd => ?_);refine gF ?_;refine vI ?_;refine Fu (Ai call92) (fun w1 hw1 => eW w1 (s := c.name)) (k := ?_);refine Zu ?_;refine Cx rfl (fun k6 => ?_) (fun k6 => ?_)
   ·refine Bp ?_;refine Xz ?_;refine pR ?_;refine AH9 ?_;refine zM ?_;refine dG ?_;refine kE ?_;refine Aj Af Ln (k := fun gc pe => ?_);refine Aj Af z8 (k := fun ic pf => ?_);refine fX ?_;exact Gd true 152 0 0 ([] : Az) 0 0 ([]) none 0 ([]) none 0 0 r.slots.gens i5 d6 r.slots.used o5 o6 r.slots.free q9 t5 r.l d9 ae af ([]) ic gc ⟨(((Is.refl (Is.xr14 (((((hF.f a9).neg b9).neg c7).neg c8).f d5))).pos d8).t k6), Ga.nil, Ga.nil, (Fl.mono c6 sh), (Fl.mono p5 sh), (Fl.mono p6 sh), ⟨(c9.1.mono sh), c9.2⟩, Mb, Mb, Mb, Mb⟩ se pj
   refine Kx ?_;refine sZ ?_;refine Ah (Al Vf) (k := ?_);refine AQ8 ?_;refine St ?_;refine Oo ?_;refine Lp ?_;refine Z0 ?_;refine Cx rfl (fun i7 => ?_) (fun i7 => ?_)
   ·have hfhq8 := Zh i7;have hxn : (((xN r c : Nat) : Int) = (Ap (xR r) c.name).1 ∧ xN r c < r.l.length) ∧ (1 ≤ (xA r c).version ∧ (xA r c).version ≤ r.seq) := (fun h0 => ⟨h0, Rm pO h0.2⟩) (by have e1 : (Ap (xR r) c.name).1.toNat = xN r c := rfl; have e2 : (xR r).l.length = r.l.length := rfl; omega)
    refine Z2 ?_;refine Z49 ?_;refine pR ?_;refine AH9 ?_;refine zM ?_;refine dG ?_;refine kE ?_;refine Aj Af Ln (k := fun xp rg => ?_);refine Aj Af z8 (k := fun yx xb => ?_);refine fX ?_;exact Gd true 153 0 0 ([] : Az) 0 0 ([]) none 0 ([]) none 0 0 r.slots.gens i5 d6 r.slots.used o5 o6 r.slots.free q9 t5 r.l d9 ae af ([]) yx xp ⟨((((Is.refl (Is.xr14 (((((hF.f a9).neg b9).neg c7).neg c8).f d5))).pos d8).f k6).t i7), Ga.nil, Ga.nil, (Fl.mono c6 sh), (Fl.mono p5 sh), (Fl.mono p6 sh), ⟨(c9.1.mono sh), c9.2⟩, Mb, Mb, Mb, Mb⟩ se pj
   refine Nm ?_;refine fO ?_;refine Hd (Ai call110) (fun w1 hw1 => I0 w1 (s := r.slots) (h_s_gens := (Fl.slj c6) w1 hw1) (n_s_gens := by first | omega | (simp; done) | exact (hsm _ z4).1 | exact (hsm _ z4).2) (h_s_used := (Fl.slj p5) w1 hw1) (n_s_used := by first | omega | (simp; done) | exact (hsm _ z4).1 | exact (hsm _ z4).2) (h_s_free := (Fl.slj p6) w1 hw1) (n_s_free := by first | omega | (simp; done) | exact (hsm _ z4).1 | exact (hsm _ z4).2)) (k := ?_);rintro mq lz mr bf ⟨cp, cq, gi, gk, gj, gm, qp, dg, em, iv, iw, iy, nw, nx, ny⟩;refine ⟨_, _, dg, bf.fresh em, ?_⟩;refine Cr ?_;refine uR ?_;refine Aj Af jN (k := fun r17 xc => ?_);refine Aj Af z67 (k := fun r18 a27 => ?_);refine Z90 ?_;refine Lo ?_;refine Vl ?_;refine Av rfl (fun j0 => ?_) (fun j0 => ?_)
   ·refine Bp ?_;refine Xz ?_;refine Cr ?_;refine pR ?_;refine cB ?_;refine Bo _ (sd (sd (sx (sk (sk (sd (sd (sk (sk (sk (sk (sa (sk (sk (sk (sk sz)))))))))))))))) ?_;refine zM ?_;refine dG ?_;refine kE ?_;refine Aj Af Ln (k := fun ru a28 => ?_);refine Aj Af z8 (k := fun rv a30 => ?_);refine fX ?_;exact Gd true ((Cl r.slots).2.2) 0 0 ([] : Az) 0 0 ([]) none 0 ([]) none 0 0 r.slots.gens i5 d6 r.slots.used o5 o6 r.slots.free q9 t5 r.l d9 ae af ([]) rv ru ⟨(((((Is.refl (Is.xr14 (((((hF.f a9).neg b9).neg c7).neg c8).f d5))).pos d8).f k6).f i7).pos j0), Ga.nil, Ga.nil, (Fl.mono c6 sh), (Fl.mono p5 sh), (Fl.mono p6 sh), ⟨(c9.1.mono sh), c9.2⟩, Mb, Mb, Mb, Mb⟩ se pj
   refine Nm ?_;refine zW ?_;refine Cr ?_;refine fP ?_;refine Hd (Ai call111) (fun w1 hw1 => tW w1 (l := ([])) (key := c.key) (now := now) (overlap := 0) (span := c.n) (h_l := (fun _ _ => Sl.nil) w1 hw1) (n_l := by first | omega | (simp; done) | exact (hsm _ z4).1 | exact (hsm _ z4).2) (hG := hG.ext hw1.ext_out) (hE := hE.ext hw1.ext_out)) (k := ?_);rintro rz qq sf cw ⟨dy, dz, eg, gn, kb, bi, a08⟩;refine ⟨_, _, gn, cw.fresh kb, ?_⟩;have xg := tR ([]) c.key now 0 c.n;refine Cr ?_;refine AI5 ?_;refine Lo ?_;refine Vl ?_;refine Av rfl (fun f9 => ?_) (fun f9 => ?_)
   ·refine Bp ?_;refine Xz ?_;refine Cr ?_;refine pR ?_;refine cB ?_;refine Bo _ (sx (sd (sd (sx (sk (sk (sd (sd (sk (sk (sk (sk (sa (sk (sk (sk (sk sz))))))))))))))))) ?_;refine zM ?_;refine dG ?_;refine kE ?_;refine Aj Af Ln (k := fun pm a31 => ?_);refine Aj Af z8 (k := fun pn a32 => ?_);refine fX ?_;exact Gd true ((Em ([]) c.key now 0 c.n).2.2) 0 0 ([] : Az) 0 0 ([]) none 0 ([]) none 0 0 r.slots.gens i5 d6 r.slots.used o5 o6 r.slots.free q9 t5 r.l d9 ae af ([]) pn pm ⟨((((((Is.refl (Is.xr14 (((((hF.f a9).neg b9).neg c7).neg c8).f d5))).pos d8).f k6).f i7).neg j0).pos f9), Ga.nil, Ga.nil, (Fl.mono c6 sh), (Fl.mono p5 sh), (Fl.mono p6 sh), ⟨(c9.1.mono sh), c9.2⟩, Mb, Mb, Mb, Mb⟩ se pj
   refine Nm ?_;refine mZ ?_;refine vI ?_;refine Cr ?_;refine T7 ?_;refine Aj Af z8 (k := fun rx kq => ?_);refine AI9 ?_;refine Ev _ (sk (sa (sd (sk (sa (sk (sk (sd (sk (sk (sk (sk (sk (sa (sk (sk (sk (sk sz)))))))))))))))))) ?_;refine Ch ?_;refine vZ ?_;refine vB ?_;refine Jl ?_;refine Ev _ (sk (sa (sd (sa (sk (sk (sk (sk (sk (sk (sk (sa (sk (sk (sk (sk sz)))))))))))))))) ?_;refine Ex _ _ (vp ((qa (qc (qc q0))).trans (qa (qa (qc (qc q0))))) (nC (nC nE))) Cy 7 [(true, 0), (true, 1), (true, 3), (false, 2), (false, 4), (false, 5), (true, 6)] z5 ?_;refine AG2 ?_;refine kH ?_;refine gJ (Ai call51) (fun w1 hw1 => uH w1 (xs := r.l) (ts := d9) (x := (Aa.mk ((Cl r.slots).2.1) c.name 1 1 ([]) ((Em ([]) c.key now 0 c.n).1) 0)) (v := (TA.mk none 0 dy dz)) ((Dh.j c9.1 sh).2 w1 hw1) Vi c9.2) (k := ?_);rintro sc qs si ez ⟨nh, nk, lq, gq, ke, fy⟩;refine ⟨_, _, _, gq, ke, rfl, ?_⟩;have hdp11 : Bk (m1 ++ (eg ++ [])) DT (Ge r.l (Aa.mk ((Cl r.slots).2.1) c.name 1 1 ([]) ((Em ([]) c.key now 0 c.n).1) 0)) (aO r.l d9 (Aa.mk ((Cl r.slots).2.1) c.name 1 1 ([]) ((Em ([]) c.key now 0 c.n).1) 0) (TA.mk none 0 dy dz)) := Bk.put ((Bk.of c9.1).mono sh) (Bk.one (B := (m1 ++ (eg ++ []))) (D := DT) (fun w hw => ⟨Sl.nil, (bi.sl Cq (Cu hw)), Gu, bi.le'⟩));have c58 := Tw r.l (Aa.mk ((Cl r.slots).2.1) c.name 1 1 ([]) ((Em ([]) c.key now 0 c.n).1) 0);refine Ye (V' := ((ui, _) :: ((pk, _) :: []))) z57 (k := ?_);refine Ye (V' := ((ui, _) :: ((pk, _) :: []))) z64 (k := ?_);refine Sd ?_;refine Bo _ (sk (sk (sa (sd (sa (sa (sd (sk (sk (sk (sk (sa (sk (sk (sk (sk sz)))))))))))))))) ?_;refine zM ?_;refine dG ?_;refine Bo _ (sd (sd (sa (sa (sa (sk (sk (sd (sd (sa (sk (sk (sk (sk sz)))))))))))))) ?_;refine Z50 ?_;refine uR ?_;refine Aj Af Ln (k := fun r24 a33 => ?_);refine Aj Af z8 (k := fun xq a34 => ?_);refine bU ?_;refine Ce _ ((((((((((qa (qa (qc (qc (qc (qa (qa (qc (qa (qa (qa q0))))))))))).trans (qa (qa (qa (qc (qc (qc (qa (qa (qc (qa (qa q0)))))))))))).trans (qa (qa (qa (qa (qc (qc (qc (qa (qa (qc (qa q0)))))))))))).trans (qa (qa (qa (qa (qa (qc (qc (qc (qa (qa (qc q0)))))))))))).trans (qb (qb (qb (qb (qb (qb (qd (qd (qd (qb (qb q0)))))))))))).trans (qc (qa (qa (qa (qa (qa q0))))))).trans (qa (qc (qa (qa (qa (qa q0))))))).trans (qb (qb (qd (qb (qb (qb (qb q0)))))))).trans (qd (qb (qb (qd (qb (qb (qb (qb (qd q0)))))))))).trans (qd (qd (qb (qb (qd (qb (qb (qb (qb q0)))))))))) ?_;refine AV6 ?_;exact Gd false 0 ((Cl r.slots).2.1.slot) ((Cl r.slots).2.1.gen) c.name 1 1 ([]) none 0 ((Em ([]) c.key now 0 c.n).1) dy dz 0 ((Cl r.slots).1.gens) cp cq ((Cl r.slots).1.used) gi gk ((Cl r.slots).1.free) gj gm (Ge r.l (Aa.mk ((Cl r.slots).2.1) c.name 1 1 ([]) ((Em ([]) c.key now 0 c.n).1) 0)) (aO r.l d9 (Aa.mk ((Cl r.slots).2.1) c.name 1 1 ([]) ((Em ([]) c.key now 0 c.n).1) 0) (TA.mk none 0 dy dz)) nh nk (eg ++ (qp ++ lq)) xq r24 ⟨((((((Is.refl (Is.xr14 (((((hF.f a9).neg b9).neg c7).neg c8).f d5))).pos d8).f k6).f i7).neg j0).neg f9), Ga.nil, (fun w hw => ⟨bi.sl Cq (Cu hw), bi.le'⟩), (Fl.mono iv sh), (Fl.mono iw sh), (Fl.mono iy sh), ⟨((Bg.nb (U := (lq ++ (m1 ++ (eg ++ [])))) Am fy hdp11 (hB := sh) (hR := sh)).mono sh), (by have h0 := fy.le'; rwa [Aw hdp11.1] at h0)⟩, Mb, Mb, Mb, Mb⟩ se pj
  refine Sg ?_;refine Av rfl (fun g9 => ?_) (fun g9 => ?_)
  ·refine Bp ?_;refine Xz ?_;refine dG ?_;refine Bo _ (sk (sk (sd (sd (sa (sk (sk (sk (sk sz))))))))) ?_;refine Z50 ?_;refine uR ?_;refine Aj Af Ln (k := fun xu a37 => ?_);refine Aj Af z8 (k := fun qm a38 => ?_);refine fX ?_;exact Gd false 0 0 0 ([] : Az) 0 0 ([]) none 0 ([]) none 0 0 r.slots.gens i5 d6 r.slots.used o5 o6 r.slots.free q9 t5 r.l d9 ae af ([]) qm xu ⟨(((Is.refl (Is.xr14 (((((hF.f a9).neg b9).neg c7).neg c8).f d5))).neg d8).pos g9), Ga.nil, Ga.nil, (Fl.mono c6 sh), (Fl.mono p5 sh), (Fl.mono p6 sh), ⟨(c9.1.mono sh), c9.2⟩, Mb, Mb, Mb, Mb⟩ se pj
  refine Bt ?_;refine Vw ?_;refine sZ ?_;refine mC ?_;refine Ej (args := [_, _, _]) (Ai call75) func75 ntmps75 ?_;refine Z2 ?_;refine Aj Af aW (k := fun jm a39 => ?_);refine Aj Af N3 (k := fun ry a41 => ?_);refine Aj Af Ln (k := fun pp a42 => ?_);refine Aj Af z8 (k := fun mw a43 => ?_);refine Z1 ?_;refine sZ ?_;refine Ah (Al Vf) (k := ?_);refine AQ8 ?_;refine St ?_;refine Oo ?_;refine Lo ?_;refine Zu ?_;refine Cx rfl (fun i0 => ?_) (fun i0 => ?_)
  ·refine Bp ?_;refine Xz ?_;refine pR ?_;refine AH9 ?_;refine pU ?_;refine Z7 ?_;refine Z9 ?_;refine kE ?_;refine Aj Af Ln (k := fun r32 a44 => ?_);refine Aj Af z8 (k := fun r33 a45 => ?_);refine fX ?_;exact Gd true 154 0 0 ([] : Az) 0 0 ([]) none 0 ([]) none 0 0 r.slots.gens i5 d6 r.slots.used o5 o6 r.slots.free q9 t5 r.l d9 ae af ([]) r33 r32 ⟨((((Is.refl (Is.xr14 (((((hF.f a9).neg b9).neg c7).neg c8).f d5))).neg d8).neg g9).t i0), Ga.nil, Ga.nil, (Fl.mono c6 sh), (Fl.mono p5 sh), (Fl.mono p6 sh), ⟨(c9.1.mono sh), c9.2⟩, Mb, Mb, Mb, Mb⟩ se pj
  have hfhq13 := Zh (by simpa using i0);have hxn : (((xN r c : Nat) : Int) = (Ap (xR r) c.name).1 ∧ xN r c < r.l.length) ∧ (1 ≤ (xA r c).version ∧ (xA r c).version ≤ r.seq) := (fun h0 => ⟨h0, Rm pO h0.2⟩) (by have e1 : (Ap (xR r) c.name).1.toNat = xN r c := rfl; have e2 : (xR r).l.length = r.l.length := rfl; omega)
  refine Kx ?_;refine Fg Cy 13 [(true, 0), (true, 1), (true, 2), (true, 3), (true, 4), (true, 5), (true, 6), (true, 7), (true, 8), (true, 9), (true, 10), (false, 11), (true, 12)] z5 ?_;refine fS ?_;refine AF1 ?_;refine zQ ?_;refine Be (Eb (cs := [_, _, _, _, _, _, _, _, _]) zeroValue88 J3) (k := ?_);refine Be (Ck isAgg36 sizeOf36) (k := ?_);refine Gg ?_;refine Be (Eb (cs := [_, _, _, _, _, _, _, _, _, _, _, _, _, _, _, _, _, _, _, _, _, _]) zeroValue97 AY6) (k := ?_);refine Sy Af (Ko (l := [_, _, _, _, _, _, _, _, _, _, _, _, _, _, _, _, _, _, _, _, _, _])) (k := fun jn a46 => ?_);refine Z48 ?_;refine Jl ?_;refine Fj ?_;refine Yo (σ1 := Bool) (fun x_19 => ((jn, oc [(vi ((xA r c).handle.slot)), (vi ((xA r c).handle.gen)), (vt ((xA r c).name)), (vi ((xA r c).state)), (vi ((xA r c).version)), (vs ((d9.getD (xN r c) default).ra) ((xA r c).rules.length) ((d9.getD (xN r c) default).rc)), (vs ((d9.getD (xN r c) default).ca) ((xA r c).creds.length) ((d9.getD (xN r c) default).cc)), (vi ((xA r c).deadline)), (vi (r.seq + 1)), (vi c.verb), (vt c.name), (vi c.want), (vi c.at_), (Value.bool c.rule.allow), (vi c.rule.pfx.addr), (vi c.rule.pfx.bits), (vi c.rule.prt.lo), (vi c.rule.prt.hi), (vt c.key), (vi c.n), (vi c.m), (vi now)] 97) :: ((mw, oc [(vi 0), (vi 0), (vt ([] : Az)), (vi 0), (vi 0), (vs none 0 0), (vs none 0 0), (vi 0)] 52) :: ((pp, oc [(vs none 0 0), (vs none 0 0), (vs none 0 0), (vs none 0 0), (vi 0)] 28) :: ((ry, oc [(vi c.verb), (vt c.name), (vi c.want), (vi c.at_), (Value.bool c.rule.allow), (vi c.rule.pfx.addr), (vi c.rule.pfx.bits), (vi c.rule.prt.lo), (vi c.rule.prt.hi), (vt c.key), (vi c.n), (vi c.m)] 36) :: ((jm, oc [(vs i5 r.slots.gens.length d6), (vs o5 r.slots.used.length o6), (vs q9 r.slots.free.length t5), (vs ae r.l.length af), (vi (r.seq + 1))] 28) :: ((r8, oc [(vi 0), (vi 0), (vt ([] : Az)), (vi 0), (vi 0), (vs none 0 0), (vs none 0 0), (vi 0)] 52) :: ((r7, oc [(vs none 0 0), (vs none 0 0), (vs none 0 0), (vs none 0 0), (vi 0)] 28) :: ((r6, oc [(vi c.verb), (vt c.name), (vi c.want), (vi c.at_), (Value.bool c.rule.allow), (vi c.rule.pfx.addr), (vi c.rule.pfx.bits), (vi c.rule.prt.lo), (vi c.rule.prt.hi), (vt c.key), (vi c.n), (vi c.m)] 36) :: ((r5, oc [(vs i5 r.slots.gens.length d6), (vs o5 r.slots.used.length o6), (vs q9 r.slots.free.length t5), (vs ae r.l.length af), (vi (r.seq + 1))] 28) :: (m1 ++ ((r4, oc [(vi 0), (vi 0), (vi 0), (vi 0), (vi 0), (vi 0)] 44) :: ((r3, oc [(vs none 0 0), (vs none 0 0), (vs none 0 0), (vs none 0 0), (vi 0)] 28) :: ((r2, oc [(vi c.verb), (vt c.name), (vi c.want), (vi c.at_), (Value.bool c.rule.allow), (vi c.rule.pfx.addr), (vi c.rule.pfx.bits), (vi c.rule.prt.lo), (vi c.rule.prt.hi), (vt c.key), (vi c.n), (vi c.m)] 36) :: ((r1, oc [(vs i5 r.slots.gens.length d6), (vs o5 r.slots.used.length o6), (vs q9 r.slots.free.length t5), (vs ae r.l.length af), (vi (r.seq + 1))] 28) :: []))))))))))))))) (fun x_19 => [(3, (Value.pointer (some ⟨jm, 0, none⟩))), (4, (Value.pointer (some ⟨ry, 0, none⟩))), (6, (Value.pointer (some ⟨pp, 0, none⟩))), (7, (Value.pointer (some ⟨mw, 0, none⟩))), (8, Value.nilIface), (9, (vi ((Ap (xR r) c.name).1))), (11, (Value.pointer (some ⟨jn, 0, none⟩))), (51, (Value.bool x_19))]) (fun x_19 => Is (Is.xr1 ((((Is.refl (Is.xr14 (((((hF.f a9).neg b9).neg c7).neg c8).f d5))).neg d8).neg g9).f i0)) x_19) ?_ ?_
  ·skip;refine AV7 ?_;refine Be (Al cU) (k := ?_);refine Qx ?_;refine Be Mj (k := ?_);refine Gg ?_;refine Fh 41 rfl (fun w4 => ?_) (fun w4 => ?_);rotate_left
   ·refine Bn 9 rfl ?_;refine Be Ir (k := ?_);refine Gs ?_;refine Gz ?_;exact Jh false ((Is.refl (Is.xr1 ((((Is.refl (Is.xr14 (((((hF.f a9).neg b9).neg c7).neg c8).f d5))).neg d8).neg g9).f i0))).neg w4) se (List.Perm.refl _)
   refine Bm (Al cU) (k := ?_);refine aA ?_;refine aC ?_;refine Bm Nt (k := ?_);refine Bm (Al cX) (k := ?_);refine Bm (Al Lm) (k := ?_);refine Bm (Al Kr) (k := ?_);refine aA ?_;refine Bm Mj (k := ?_);refine Be Hn (k := ?_);refine Gs ?_;refine Gz ?_;exact Jh (decide (c.want ≠ ((xA r c).version))) ((Is.refl (Is.xr1 ((((Is.refl (Is.xr14 (((((hF.f a9).neg b9).neg c7).neg c8).f d5))).neg d8).neg g9).f i0))).pos w4) se (List.Perm.refl _)
  intro x_19 hJ20;refine Hq ?_;refine Cx rfl (fun j8 => ?_) (fun j8 => ?_)
  ·refine Bp ?_;refine Xz ?_;refine pR ?_;refine cB ?_;refine Bo _ (sd (sk (sk (sd (sd (sk (sk (sk (sk (sa (sk (sk (sk (sk sz)))))))))))))) ?_;refine pU ?_;refine Z7 ?_;refine Z9 ?_;refine kE ?_;refine Aj Af Ln (k := fun r35 a47 => ?_);refine Aj Af z8 (k := fun r36 a48 => ?_);refine fX ?_;exact Gd true 155 0 0 ([] : Az) 0 0 ([]) none 0 ([]) none 0 0 r.slots.gens i5 d6 r.slots.used o5 o6 r.slots.free q9 t5 r.l d9 ae af ([]) r36 r35 ⟨((((((Is.refl (Is.xr14 (((((hF.f a9).neg b9).neg c7).neg c8).f d5))).neg d8).neg g9).f i0).rn1 hJ20).t j8), Ga.nil, Ga.nil, (Fl.mono c6 sh), (Fl.mono p5 sh), (Fl.mono p6 sh), ⟨(c9.1.mono sh), c9.2⟩, Mb, Mb, Mb, Mb⟩ se pj
  refine Kx ?_;refine Fj ?_;refine nP (σ1 := Bool) (σ2 := Int) (σ3 := Int) (σ4 := List Bf) (σ5 := Option Addr) (σ6 := Nat) (σ7 := List Bs) (σ8 := Option Addr) (σ9 := Nat) (σ10 := Int) (σ11 := An) (fun err_21b err_21 x_22 x_23 w8 y8 x_24 w9 y9 x_25 bt => (bt ++ ((jn, oc [(vi ((xA r c).handle.slot)), (vi ((xA r c).handle.gen)), (vt ((xA r c).name)), (vi x_22), (vi ((xA r c).version)), (vs w8 x_23.length y8), (vs w9 x_24.length y9), (vi x_25), (vi (r.seq + 1)), (vi c.verb), (vt c.name), (vi c.want), (vi c.at_), (Value.bool c.rule.allow), (vi c.rule.pfx.addr), (vi c.rule.pfx.bits), (vi c.rule.prt.lo), (vi c.rule.prt.hi), (vt c.key), (vi c.n), (vi c.m), (vi now)] 97) :: ((mw, oc [(vi 0), (vi 0), (vt ([] : Az)), (vi 0), (vi 0), (vs none 0 0), (vs none 0 0), (vi 0)] 52) :: ((pp, oc [(vs none 0 0), (vs none 0 0), (vs none 0 0), (vs none 0 0), (vi 0)] 28) :: ((ry, oc [(vi c.verb), (vt c.name), (vi c.want), (vi c.at_), (Value.bool c.rule.allow), (vi c.rule.pfx.addr), (vi c.rule.pfx.bits), (vi c.rule.prt.lo), (vi c.rule.prt.hi), (vt c.key), (vi c.n), (vi c.m)] 36) :: ((jm, oc [(vs i5 r.slots.gens.length d6), (vs o5 r.slots.used.length o6), (vs q9 r.slots.free.length t5), (vs ae r.l.length af), (vi (r.seq + 1))] 28) :: ((r8, oc [(vi 0), (vi 0), (vt ([] : Az)), (vi 0), (vi 0), (vs none 0 0), (vs none 0 0), (vi 0)] 52) :: ((r7, oc [(vs none 0 0), (vs none 0 0), (vs none 0 0), (vs none 0 0), (vi 0)] 28) :: ((r6, oc [(vi c.verb), (vt c.name), (vi c.want), (vi c.at_), (Value.bool c.rule.allow), (vi c.rule.pfx.addr), (vi c.rule.pfx.bits), (vi c.rule.prt.lo), (vi c.rule.prt.hi), (vt c.key), (vi c.n), (vi c.m)] 36) :: ((r5, oc [(vs i5 r.slots.gens.length d6), (vs o5 r.slots.used.length o6), (vs q9 r.slots.free.length t5), (vs ae r.l.length af), (vi (r.seq + 1))] 28) :: (m1 ++ ((r4, oc [(vi 0), (vi 0), (vi 0), (vi 0), (vi 0), (vi 0)] 44) :: ((r3, oc [(vs none 0 0), (vs none 0 0), (vs none 0 0), (vs none 0 0), (vi 0)] 28) :: ((r2, oc [(vi c.verb), (vt c.name), (vi c.want), (vi c.at_), (Value.bool c.rule.allow), (vi c.rule.pfx.addr), (vi c.rule.pfx.bits), (vi c.rule.prt.lo), (vi c.rule.prt.hi), (vt c.key), (vi c.n), (vi c.m)] 36) :: ((r1, oc [(vs i5 r.slots.gens.length d6), (vs o5 r.slots.used.length o6), (vs q9 r.slots.free.length t5), (vs ae r.l.length af), (vi (r.seq + 1))] 28) :: [])))))))))))))))) (fun err_21b err_21 x_22 x_23 w8 y8 x_24 w9 y9 x_25 bt => [(3, (Value.pointer (some ⟨jm, 0, none⟩))), (4, (Value.pointer (some ⟨ry, 0, none⟩))), (6, (Value.pointer (some ⟨pp, 0, none⟩))), (7, (Value.pointer (some ⟨mw, 0, none⟩))), (8, Value.nilIface), (9, (vi ((Ap (xR r) c.name).1))), (11, (Value.pointer (some ⟨jn, 0, none⟩))), (12, (wE 120 err_21b err_21))]) (fun err_21b err_21 x_22 x_23 w8 y8 x_24 w9 y9 x_25 bt => Is (Is.xr6 ((((((Is.refl (Is.xr14 (((((hF.f a9).neg b9).neg c7).neg c8).f d5))).neg d8).neg g9).f i0).rn1 hJ20).f j8)) (err_21b, err_21, x_22, x_23, x_24, x_25) ∧ Ga (m1 ++ bt) En 5 w8 y8 x_23 ∧ Ga (m1 ++ bt) Fy 4 w9 y9 x_24) ?_ ?_
  ·skip;refine Ex _ _ (vp (List.Perm.refl _) (nC nE)) Cy 7 [(true, 1), (true, 2), (true, 4), (false, 0), (true, 3), (false, 5), (true, 6)] z5 ?_;refine Be (Al uC) (k := ?_);refine Qx ?_;refine Gg ?_;refine Rb (args := []) (Ai call112) func112 ntmps112 ?_;refine Ry ?_;refine Aj Af iD (k := fun r37 a49 => ?_);refine Ti (ml := ([] : List (Int × Value))) 2 Fz runUnderlying162 runUnderlying3 (Nx.nil (enc := fun x : Int => vi x)) Gu q0 (k := fun em57 km57 hms57 => ?_);refine Ti (ml := ([(2, (Value.func (.func 50) [].toArray [].toArray))] : List (Int × Value))) 3 Fz runUnderlying162 runUnderlying3 hms57 Gu q0 (k := fun em58 km58 hms58 => ?_);refine Ti (ml := ([(2, (Value.func (.func 50) [].toArray [].toArray)), (3, (Value.func (.func 143) [].toArray [].toArray))] : List (Int × Value))) 4 Fz runUnderlying162 runUnderlying3 hms58 Gu q0 (k := fun em59 km59 hms59 => ?_);refine Ti (ml := ([(2, (Value.func (.func 50) [].toArray [].toArray)), (3, (Value.func (.func 143) [].toArray [].toArray)), (4, (Value.func (.func 144) [].toArray [].toArray))] : List (Int × Value))) 6 Fz runUnderlying162 runUnderlying3 hms59 Gu q0 (k := fun em60 km60 hms60 => ?_);refine Ti (ml := ([(2, (Value.func (.func 50) [].toArray [].toArray)), (3, (Value.func (.func 143) [].toArray [].toArray)), (4, (Value.func (.func 144) [].toArray [].toArray)), (6, (Value.func (.func 145) [].toArray [].toArray))] : List (Int × Value))) 7 Fz runUnderlying162 runUnderlying3 hms60 Gu q0 (k := fun em61 km61 hms61 => ?_);refine Ti (ml := ([(2, (Value.func (.func 50) [].toArray [].toArray)), (3, (Value.func (.func 143) [].toArray [].toArray)), (4, (Value.func (.func 144) [].toArray [].toArray)), (6, (Value.func (.func 145) [].toArray [].toArray)), (7, (Value.func (.func 146) [].toArray [].toArray))] : List (Int × Value))) 5 Fz runUnderlying162 runUnderlying3 hms61 Gu q0 (k := fun em62 km62 hms62 => ?_);refine Ti (ml := ([(2, (Value.func (.func 50) [].toArray [].toArray)), (3, (Value.func (.func 143) [].toArray [].toArray)), (4, (Value.func (.func 144) [].toArray [].toArray)), (6, (Value.func (.func 145) [].toArray [].toArray)), (7, (Value.func (.func 146) [].toArray [].toArray)), (5, (Value.func (.func 147) [].toArray [].toArray))] : List (Int × Value))) 8 Fz runUnderlying162 runUnderlying3 hms62 Gu q0 (k := fun em63 km63 hms63 => ?_);refine Ti (ml := ([(2, (Value.func (.func 50) [].toArray [].toArray)), (3, (Value.func (.func 143) [].toArray [].toArray)), (4, (Value.func (.func 144) [].toArray [].toArray)), (6, (Value.func (.func 145) [].toArray [].toArray)), (7, (Value.func (.func 146) [].toArray [].toArray)), (5, (Value.func (.func 147) [].toArray [].toArray)), (8, (Value.func (.func 147) [].toArray [].toArray))] : List (Int × Value))) 10 Fz runUnderlying162 runUnderlying3 hms63 Gu q0 (k := fun em64 km64 hms64 => ?_);refine Cr ?_;refine Z9 ?_;refine He _ _ results112 z1 (vp (((((((((((((((qa (qa (qa (qa (qa (qa (qa (qa (qa (qa (qc (qa (qa (qa q0)))))))))))))).trans (qa (qa (qa (qa (qa (qa (qa (qa (qa (qa (qa (qc (qa (qa q0))))))))))))))).trans (qa (qa (qa (qa (qa (qa (qa (qa (qa (qa (qa (qa (qc (qa q0))))))))))))))).trans (qa (qa (qa (qa (qa (qa (qa (qa (qa (qa (qa (qa (qa (qc q0))))))))))))))).trans (qb (qb (qb (qb (qb (qb (qb (qb (qb (qb (qb (qb (qb (qb q0))))))))))))))).trans (qc (qa (qa (qa (qa (qa (qa (qa (qa (qa (qa (qa (qa (qa q0))))))))))))))).trans (qa (qc (qa (qa (qa (qa (qa (qa (qa (qa (qa (qa (qa (qa q0))))))))))))))).trans (qa (qa (qc (qa (qa (qa (qa (qa (qa (qa (qa (qa (qa (qa q0))))))))))))))).trans (qa (qa (qa (qc (qa (qa (qa (qa (qa (qa (qa (qa (qa (qa q0))))))))))))))).trans (qa (qa (qa (qa (qc (qa (qa (qa (qa (qa (qa (qa (qa (qa q0))))))))))))))).trans (qa (qa (qa (qa (qa (qc (qa (qa (qa (qa (qa (qa (qa (qa q0))))))))))))))).trans (qa (qa (qa (qa (qa (qa (qc (qa (qa (qa (qa (qa (qa (qa q0))))))))))))))).trans (qa (qa (qa (qa (qa (qa (qa (qc (qa (qa (qa (qa (qa (qa q0))))))))))))))).trans (qa (qa (qa (qa (qa (qa (qa (qa (qc (qa (qa (qa (qa q0)))))))))))))).trans (qa (qa (qa (qa (qa (qa (qa (qa (qa (qc (qa (qa (qa (qa q0))))))))))))))) (nC nE)) (List.Sublist.cons _ Mc) ?_;by_cases k0 : c.verb = 2
   ·refine Be (Pa (l := ([(2, (Value.func (.func 50) [].toArray [].toArray)), (3, (Value.func (.func 143) [].toArray [].toArray)), (4, (Value.func (.func 144) [].toArray [].toArray)), (6, (Value.func (.func 145) [].toArray [].toArray)), (7, (Value.func (.func 146) [].toArray [].toArray)), (5, (Value.func (.func 147) [].toArray [].toArray)), (8, (Value.func (.func 147) [].toArray [].toArray)), (10, (Value.func (.func 147) [].toArray [].toArray))] : List (Int × Value))) (v := (Value.func (.func 50) [].toArray [].toArray)) c.verb Fz runUnderlying162 runUnderlying3 zeroValue161 hms64 (by rw [(Kc k0.symm)]; rfl)) (k := ?_);refine Rb (args := [_]) (Ai call50) func50 ntmps50 ?_;refine Zw ?_;refine Qv ?_;refine Su ?_;refine vG ?_;refine Ah Mj (k := ?_);refine AI2 ?_;refine bW ?_;refine Av rfl (fun t7 => ?_) (fun t7 => ?_)
    ·refine Bp ?_;refine Ch ?_;refine pR ?_;refine Qa ?_;refine S6 ?_;refine He _ _ results50 z1 (vp (List.Perm.refl _) (nC nE)) Mc ?_;refine uS ?_;refine cC ?_;exact Dl true 156 ((xA r c).state) ((xA r c).rules) ((d9.getD (xN r c) default).ra) ((d9.getD (xN r c) default).rc) ((xA r c).creds) ((d9.getD (xN r c) default).ca) ((d9.getD (xN r c) default).cc) ((xA r c).deadline) ([]) ⟨(((Is.refl (Is.xr6 ((((((Is.refl (Is.xr14 (((((hF.f a9).neg b9).neg c7).neg c8).f d5))).neg d8).neg g9).f i0).rn1 hJ20).f j8))).pos k0).pos t7), (fun w hw => ⟨(c9.1.at (m := ((Ap (xR r) c.name).1).toNat) z3 w (Cu hw)).1, (c9.1.at (m := ((Ap (xR r) c.name).1).toNat) z3 w (Cu hw)).2.2.1⟩), (fun w hw => ⟨(c9.1.at (m := ((Ap (xR r) c.name).1).toNat) z3 w (Cu hw)).2.1, (c9.1.at (m := ((Ap (xR r) c.name).1).toNat) z3 w (Cu hw)).2.2.2⟩)⟩ se pj
    refine Xv ?_;refine Qv ?_;refine Cr ?_;refine Su ?_;refine AG4 ?_;refine Su ?_;refine P3 ?_;refine Z0 ?_;refine bV ?_;refine S6 ?_;refine He _ _ results50 z1 (vp (List.Perm.refl _) (nC nE)) Mc ?_;refine uS ?_;refine cC ?_;exact Dl false 0 2 ((xA r c).rules) ((d9.getD (xN r c) default).ra) ((d9.getD (xN r c) default).rc) ((xA r c).creds) ((d9.getD (xN r c) default).ca) ((d9.getD (xN r c) default).cc) 0 ([]) ⟨(((Is.refl (Is.xr6 ((((((Is.refl (Is.xr14 (((((hF.f a9).neg b9).neg c7).neg c8).f d5))).neg d8).neg g9).f i0).rn1 hJ20).f j8))).pos k0).neg t7), (fun w hw => ⟨(c9.1.at (m := ((Ap (xR r) c.name).1).toNat) z3 w (Cu hw)).1, (c9.1.at (m := ((Ap (xR r) c.name).1).toNat) z3 w (Cu hw)).2.2.1⟩), (fun w hw => ⟨(c9.1.at (m := ((Ap (xR r) c.name).1).toNat) z3 w (Cu hw)).2.1, (c9.1.at (m := ((Ap (xR r) c.name).1).toNat) z3 w (Cu hw)).2.2.2⟩)⟩ se pj
   by_cases j6 : c.verb = 3
   ·refine Be (Pa (l := ([(2, (Value.func (.func 50) [].toArray [].toArray)), (3, (Value.func (.func 143) [].toArray [].toArray)), (4, (Value.func (.func 144) [].toArray [].toArray)), (6, (Value.func (.func 145) [].toArray [].toArray)), (7, (Value.func (.func 146) [].toArray [].toArray)), (5, (Value.func (.func 147) [].toArray [].toArray)), (8, (Value.func (.func 147) [].toArray [].toArray)), (10, (Value.func (.func 147) [].toArray [].toArray))] : List (Int × Value))) (v := (Value.func (.func 143) [].toArray [].toArray)) c.verb Fz runUnderlying162 runUnderlying3 zeroValue161 hms64 (by rw [((Cf (fun e => k0 e.symm)).trans (Kc j6.symm))]; rfl)) (k := ?_);refine Rb (args := [_]) (Ai call143) func143 ntmps143 ?_;refine Zw ?_;refine Qv ?_;refine Su ?_;refine vG ?_;refine Ah Gy (k := ?_);refine AI2 ?_;refine bW ?_;refine Av rfl (fun w5 => ?_) (fun w5 => ?_)
    ·refine Bp ?_;refine Ch ?_;refine pR ?_;refine Qa ?_;refine S6 ?_;refine He _ _ results143 z1 (vp (List.Perm.refl _) (nC nE)) Mc ?_;refine uS ?_;refine cC ?_;exact Dl true 156 ((xA r c).state) ((xA r c).rules) ((d9.getD (xN r c) default).ra) ((d9.getD (xN r c) default).rc) ((xA r c).creds) ((d9.getD (xN r c) default).ca) ((d9.getD (xN r c) default).cc) ((xA r c).deadline) ([]) ⟨((((Is.refl (Is.xr6 ((((((Is.refl (Is.xr14 (((((hF.f a9).neg b9).neg c7).neg c8).f d5))).neg d8).neg g9).f i0).rn1 hJ20).f j8))).neg k0).pos j6).pos w5), (fun w hw => ⟨(c9.1.at (m := ((Ap (xR r) c.name).1).toNat) z3 w (Cu hw)).1, (c9.1.at (m := ((Ap (xR r) c.name).1).toNat) z3 w (Cu hw)).2.2.1⟩), (fun w hw => ⟨(c9.1.at (m := ((Ap (xR r) c.name).1).toNat) z3 w (Cu hw)).2.1, (c9.1.at (m := ((Ap (xR r) c.name).1).toNat) z3 w (Cu hw)).2.2.2⟩)⟩ se pj
    refine Xv ?_;refine Qv ?_;refine Cr ?_;refine Su ?_;refine AG4 ?_;refine Su ?_;refine P3 ?_;refine Z0 ?_;refine bV ?_;refine S6 ?_;refine He _ _ results143 z1 (vp (List.Perm.refl _) (nC nE)) Mc ?_;refine uS ?_;refine cC ?_;exact Dl false 0 1 ((xA r c).rules) ((d9.getD (xN r c) default).ra) ((d9.getD (xN r c) default).rc) ((xA r c).creds) ((d9.getD (xN r c) default).ca) ((d9.getD (xN r c) default).cc) 0 ([]) ⟨((((Is.refl (Is.xr6 ((((((Is.refl (Is.xr14 (((((hF.f a9).neg b9).neg c7).neg c8).f d5))).neg d8).neg g9).f i0).rn1 hJ20).f j8))).neg k0).pos j6).neg w5), (fun w hw => ⟨(c9.1.at (m := ((Ap (xR r) c.name).1).toNat) z3 w (Cu hw)).1, (c9.1.at (m := ((Ap (xR r) c.name).1).toNat) z3 w (Cu hw)).2.2.1⟩), (fun w hw => ⟨(c9.1.at (m := ((Ap (xR r) c.name).1).toNat) z3 w (Cu hw)).2.1, (c9.1.at (m := ((Ap (xR r) c.name).1).toNat) z3 w (Cu hw)).2.2.2⟩)⟩ se pj
   by_cases m3 : c.verb = 4
   ·refine Be (Pa (l := ([(2, (Value.func (.func 50) [].toArray [].toArray)), (3, (Value.func (.func 143) [].toArray [].toArray)), (4, (Value.func (.func 144) [].toArray [].toArray)), (6, (Value.func (.func 145) [].toArray [].toArray)), (7, (Value.func (.func 146) [].toArray [].toArray)), (5, (Value.func (.func 147) [].toArray [].toArray)), (8, (Value.func (.func 147) [].toArray [].toArray)), (10, (Value.func (.func 147) [].toArray [].toArray))] : List (Int × Value))) (v := (Value.func (.func 144) [].toArray [].toArray)) c.verb Fz runUnderlying162 runUnderlying3 zeroValue161 hms64 (by rw [((Cf (fun e => k0 e.symm)).trans ((Cf (fun e => j6 e.symm)).trans (Kc m3.symm)))]; rfl)) (k := ?_);refine Rb (args := [_]) (Ai call144) func144 ntmps144 ?_;refine gE ?_;refine Qv ?_;refine Su ?_;refine vG ?_;refine Ah Gy (k := ?_);refine AI2 ?_;refine bW ?_;refine Av rfl (fun y7 => ?_) (fun y7 => ?_)
    ·refine Bp ?_;refine Ch ?_;refine pR ?_;refine Qa ?_;refine Cd results86 z1 ?_;refine Lp ?_;refine Ah (bB (u := (Value.iface 120 (Value.agg [(vi 156)].toArray))) (v := Value.nilIface) (b := true) (fun w => by kernel_rfl)) (k := ?_);refine Z0 ?_;refine Nn rfl ?_;refine Z5 ?_;refine Qa ?_;refine zN ?_;refine cC ?_;exact Dl true 156 ((xA r c).state) ((xA r c).rules) ((d9.getD (xN r c) default).ra) ((d9.getD (xN r c) default).rc) ((xA r c).creds) ((d9.getD (xN r c) default).ca) ((d9.getD (xN r c) default).cc) ((xA r c).deadline) ([]) ⟨(((((Is.refl (Is.xr6 ((((((Is.refl (Is.xr14 (((((hF.f a9).neg b9).neg c7).neg c8).f d5))).neg d8).neg g9).f i0).rn1 hJ20).f j8))).neg k0).neg j6).pos m3).pos y7), (fun w hw => ⟨(c9.1.at (m := ((Ap (xR r) c.name).1).toNat) z3 w (Cu hw)).1, (c9.1.at (m := ((Ap (xR r) c.name).1).toNat) z3 w (Cu hw)).2.2.1⟩), (fun w hw => ⟨(c9.1.at (m := ((Ap (xR r) c.name).1).toNat) z3 w (Cu hw)).2.1, (c9.1.at (m := ((Ap (xR r) c.name).1).toNat) z3 w (Cu hw)).2.2.2⟩)⟩ se pj
    refine Xv ?_;refine Qv ?_;refine Cr ?_;refine Su ?_;refine AG4 ?_;refine Su ?_;refine P3 ?_;refine Z0 ?_;refine bV ?_;refine Cd results86 z1 ?_;refine Lp ?_;refine AH2 ?_;refine Ha rfl ?_;refine Xv ?_;refine Z5 ?_;refine Ah Nt (k := ?_);refine Ah (Al Vg) (k := ?_);refine fP ?_;refine Lo ?_;refine Qb ?_;refine Ar 24 rfl (fun m9 => ?_) (fun m9 => ?_)
    ·refine Ag 2 rfl ?_;refine Sn ?_;refine Ag 7 rfl ?_;refine Ss ?_;refine pR ?_;refine Qa ?_;refine zN ?_;refine cC ?_;exact Dl true 2 3 ((xA r c).rules) ((d9.getD (xN r c) default).ra) ((d9.getD (xN r c) default).rc) ((xA r c).creds) ((d9.getD (xN r c) default).ca) ((d9.getD (xN r c) default).cc) 0 ([]) ⟨((((((Is.refl (Is.xr6 ((((((Is.refl (Is.xr14 (((((hF.f a9).neg b9).neg c7).neg c8).f d5))).neg d8).neg g9).f i0).rn1 hJ20).f j8))).neg k0).neg j6).pos m3).neg y7).pos m9), (fun w hw => ⟨(c9.1.at (m := ((Ap (xR r) c.name).1).toNat) z3 w (Cu hw)).1, (c9.1.at (m := ((Ap (xR r) c.name).1).toNat) z3 w (Cu hw)).2.2.1⟩), (fun w hw => ⟨(c9.1.at (m := ((Ap (xR r) c.name).1).toNat) z3 w (Cu hw)).2.1, (c9.1.at (m := ((Ap (xR r) c.name).1).toNat) z3 w (Cu hw)).2.2.2⟩)⟩ se pj
    refine bT ?_;refine Pz ?_;refine Ar 28 rfl (fun cl => ?_) (fun cl => ?_)
    ·refine Ag 7 rfl ?_;refine Ss ?_;refine pR ?_;refine Qa ?_;refine zN ?_;refine cC ?_;exact Dl true 2 3 ((xA r c).rules) ((d9.getD (xN r c) default).ra) ((d9.getD (xN r c) default).rc) ((xA r c).creds) ((d9.getD (xN r c) default).ca) ((d9.getD (xN r c) default).cc) 0 ([]) ⟨(((((((Is.refl (Is.xr6 ((((((Is.refl (Is.xr14 (((((hF.f a9).neg b9).neg c7).neg c8).f d5))).neg d8).neg g9).f i0).rn1 hJ20).f j8))).neg k0).neg j6).pos m3).neg y7).neg m9).pos cl), (fun w hw => ⟨(c9.1.at (m := ((Ap (xR r) c.name).1).toNat) z3 w (Cu hw)).1, (c9.1.at (m := ((Ap (xR r) c.name).1).toNat) z3 w (Cu hw)).2.2.1⟩), (fun w hw => ⟨(c9.1.at (m := ((Ap (xR r) c.name).1).toNat) z3 w (Cu hw)).2.1, (c9.1.at (m := ((Ap (xR r) c.name).1).toNat) z3 w (Cu hw)).2.2.2⟩)⟩ se pj
    refine Hw ?_;refine Ay Nt (k := ?_);refine Ay (Al lH) (k := ?_);refine Qy ?_;refine Hw ?_;refine Ay Yf (k := ?_);refine Ay Ka (k := ?_);refine Rt ?_;refine Av rfl (fun ct => ?_) (fun ct => ?_)
    ·refine Bp ?_;refine Ch ?_;refine pR ?_;refine Qa ?_;refine zN ?_;refine cC ?_;exact Dl true 2 3 ((xA r c).rules) ((d9.getD (xN r c) default).ra) ((d9.getD (xN r c) default).rc) ((xA r c).creds) ((d9.getD (xN r c) default).ca) ((d9.getD (xN r c) default).cc) 0 ([]) ⟨((((((((Is.refl (Is.xr6 ((((((Is.refl (Is.xr14 (((((hF.f a9).neg b9).neg c7).neg c8).f d5))).neg d8).neg g9).f i0).rn1 hJ20).f j8))).neg k0).neg j6).pos m3).neg y7).neg m9).neg cl).pos ct), (fun w hw => ⟨(c9.1.at (m := ((Ap (xR r) c.name).1).toNat) z3 w (Cu hw)).1, (c9.1.at (m := ((Ap (xR r) c.name).1).toNat) z3 w (Cu hw)).2.2.1⟩), (fun w hw => ⟨(c9.1.at (m := ((Ap (xR r) c.name).1).toNat) z3 w (Cu hw)).2.1, (c9.1.at (m := ((Ap (xR r) c.name).1).toNat) z3 w (Cu hw)).2.2.2⟩)⟩ se pj
    refine Xv ?_;refine Qv ?_;refine Ah Nt (k := ?_);refine Ah (Al lH) (k := ?_);refine Iq ?_;refine Z77 ?_;refine Su ?_;refine P3 ?_;refine Z0 ?_;refine bV ?_;refine zN ?_;refine cC ?_;exact Dl false 0 3 ((xA r c).rules) ((d9.getD (xN r c) default).ra) ((d9.getD (xN r c) default).rc) ((xA r c).creds) ((d9.getD (xN r c) default).ca) ((d9.getD (xN r c) default).cc) (now + c.n) ([]) ⟨((((((((Is.refl (Is.xr6 ((((((Is.refl (Is.xr14 (((((hF.f a9).neg b9).neg c7).neg c8).f d5))).neg d8).neg g9).f i0).rn1 hJ20).f j8))).neg k0).neg j6).pos m3).neg y7).neg m9).neg cl).neg ct), (fun w hw => ⟨(c9.1.at (m := ((Ap (xR r) c.name).1).toNat) z3 w (Cu hw)).1, (c9.1.at (m := ((Ap (xR r) c.name).1).toNat) z3 w (Cu hw)).2.2.1⟩), (fun w hw => ⟨(c9.1.at (m := ((Ap (xR r) c.name).1).toNat) z3 w (Cu hw)).2.1, (c9.1.at (m := ((Ap (xR r) c.name).1).toNat) z3 w (Cu hw)).2.2.2⟩)⟩ se pj
   by_cases p7 : c.verb = 6
   ·refine Be (Pa (l := ([(2, (Value.func (.func 50) [].toArray [].toArray)), (3, (Value.func (.func 143) [].toArray [].toArray)), (4, (Value.func (.func 144) [].toArray [].toArray)), (6, (Value.func (.func 145) [].toArray [].toArray)), (7, (Value.func (.func 146) [].toArray [].toArray)), (5, (Value.func (.func 147) [].toArray [].toArray)), (8, (Value.func (.func 147) [].toArray [].toArray)), (10, (Value.func (.func 147) [].toArray [].toArray))] : List (Int × Value))) (v := (Value.func (.func 145) [].toArray [].toArray)) c.verb Fz runUnderlying162 runUnderlying3 zeroValue161 hms64 (by rw [((Cf (fun e => k0 e.symm)).trans ((Cf (fun e => j6 e.symm)).trans ((Cf (fun e => m3 e.symm)).trans (Kc p7.symm))))]; rfl)) (k := ?_);refine Rb (args := [_]) (Ai call145) func145 ntmps145 ?_;refine gE ?_;refine Fg Cy 33 [(true, 0), (true, 1), (true, 2), (true, 3), (true, 4), (true, 5), (true, 6), (true, 7), (true, 8), (true, 9), (true, 10), (true, 11), (true, 12), (true, 13), (true, 14), (true, 15), (true, 16), (true, 17), (true, 18), (true, 19), (true, 20), (true, 21), (true, 22), (true, 23), (true, 24), (false, 25), (true, 26), (true, 27), (true, 28), (true, 29), (true, 30), (true, 31), (true, 32)] z5 ?_;refine mQ ?_;refine R8 ?_;refine Be (Al Mx) (k := ?_);refine Be (Ca isAgg50) (k := ?_);refine mQ ?_;refine Be (Al Vg) (k := ?_);refine Be (Al lG) (k := ?_);refine Be (Ca isAgg9) (k := ?_);refine mQ ?_;refine Be (Al lH) (k := ?_);refine Qx ?_;refine mQ ?_;refine Be (Al Vg) (k := ?_);refine Be (Al cW) (k := ?_);refine Qx ?_;refine mQ ?_;refine Be (Al Vg) (k := ?_);refine Be (Al uF) (k := ?_);refine Qx ?_;refine gJ (Ai call111) (fun w1 hw1 => tW w1 (l := ((xA r c).creds)) (key := c.key) (now := now) (overlap := c.n) (span := c.m) (h_l := (fun w hw => ((Dh.j c9.1 sh).at (m := ((Ap (xR r) c.name).1).toNat) z3 w hw).2.1) w1 hw1) (n_l := by first | omega | (simp; done) | exact (hsm _ z4).1 | exact (hsm _ z4).2) (hG := hG.ext hw1.ext_out) (hE := hE.ext hw1.ext_out)) (k := ?_);rintro d30 c23 d37 b57 ⟨tc, tj, sm, zu, a01, gr, b36⟩;refine ⟨_, _, _, zu, a01, rfl, ?_⟩;have xf := tR ((xA r c).creds) c.key now c.n c.m;refine Gg ?_;refine Be Qh (k := ?_);refine Be Qh (k := ?_);refine Be Qh (k := ?_);refine Be Ey (k := ?_);refine Be Ey (k := ?_);refine Z48 ?_;refine Z0 ?_;refine Qv ?_;refine Su ?_;refine Ah (Al Mx) (k := ?_);refine Gv (Bw (l' := [_, _, _, _, _, _, _, _, _, _, _, _, _, _, _, _, _, _, _, _, _, _]) sizeOf50) (k := ?_);refine Om ?_;refine AI6 ?_;refine Vl ?_;refine Av rfl (fun bj => ?_) (fun bj => ?_);rotate_left
    ·refine Bt ?_;refine Hq ?_;refine bV ?_;refine zU ?_;refine Z71 ?_;refine Kz ?_;refine mB ?_;refine Z8 ?_;exact Dl false 0 ((xA r c).state) ((xA r c).rules) ((d9.getD (xN r c) default).ra) ((d9.getD (xN r c) default).rc) ((Em ((xA r c).creds) c.key now c.n c.m).1) tc tj ((xA r c).deadline) sm ⟨((((((Is.refl (Is.xr6 ((((((Is.refl (Is.xr14 (((((hF.f a9).neg b9).neg c7).neg c8).f d5))).neg d8).neg g9).f i0).rn1 hJ20).f j8))).neg k0).neg j6).neg m3).pos p7).neg bj), (fun w hw => ⟨(c9.1.at (m := ((Ap (xR r) c.name).1).toNat) z3 w (Cu hw)).1, (c9.1.at (m := ((Ap (xR r) c.name).1).toNat) z3 w (Cu hw)).2.2.1⟩), (fun w hw => ⟨gr.sl Cq (Cu hw), gr.le'⟩)⟩ se pj
    refine Z5 ?_;refine pR ?_;refine Qa ?_;refine zU ?_;refine Z71 ?_;refine Kz ?_;refine mB ?_;refine Z8 ?_;exact Dl true ((Em ((xA r c).creds) c.key now c.n c.m).2.2) ((xA r c).state) ((xA r c).rules) ((d9.getD (xN r c) default).ra) ((d9.getD (xN r c) default).rc) ((Em ((xA r c).creds) c.key now c.n c.m).1) tc tj ((xA r c).deadline) sm ⟨((((((Is.refl (Is.xr6 ((((((Is.refl (Is.xr14 (((((hF.f a9).neg b9).neg c7).neg c8).f d5))).neg d8).neg g9).f i0).rn1 hJ20).f j8))).neg k0).neg j6).neg m3).pos p7).pos bj), (fun w hw => ⟨(c9.1.at (m := ((Ap (xR r) c.name).1).toNat) z3 w (Cu hw)).1, (c9.1.at (m := ((Ap (xR r) c.name).1).toNat) z3 w (Cu hw)).2.2.1⟩), (fun w hw => ⟨gr.sl Cq (Cu hw), gr.le'⟩)⟩ se pj
   by_cases ap : c.verb = 7;rotate_left
   ·by_cases dh : c.verb = 5
    ·refine Be (Pa (l := ([(2, (Value.func (.func 50) [].toArray [].toArray)), (3, (Value.func (.func 143) [].toArray [].toArray)), (4, (Value.func (.func 144) [].toArray [].toArray)), (6, (Value.func (.func 145) [].toArray [].toArray)), (7, (Value.func (.func 146) [].toArray [].toArray)), (5, (Value.func (.func 147) [].toArray [].toArray)), (8, (Value.func (.func 147) [].toArray [].toArray)), (10, (Value.func (.func 147) [].toArray [].toArray))] : List (Int × Value))) (v := (Value.func (.func 147) [].toArray [].toArray)) c.verb Fz runUnderlying162 runUnderlying3 zeroValue161 hms64 (by rw [((Cf (fun e => k0 e.symm)).trans ((Cf (fun e => j6 e.symm)).trans ((Cf (fun e => m3 e.symm)).trans ((Cf (fun e => p7 e.symm)).trans ((Cf (fun e => ap e.symm)).trans (Kc dh.symm))))))]; rfl)) (k := ?_);refine AI7 ?_;refine Z9 ?_;refine AG9 ?_;refine cC ?_;exact Dl false 0 ((xA r c).state) ((xA r c).rules) ((d9.getD (xN r c) default).ra) ((d9.getD (xN r c) default).rc) ((xA r c).creds) ((d9.getD (xN r c) default).ca) ((d9.getD (xN r c) default).cc) ((xA r c).deadline) ([]) ⟨(((((((Is.refl (Is.xr6 ((((((Is.refl (Is.xr14 (((((hF.f a9).neg b9).neg c7).neg c8).f d5))).neg d8).neg g9).f i0).rn1 hJ20).f j8))).neg k0).neg j6).neg m3).neg p7).neg ap).pos dh), (fun w hw => ⟨(c9.1.at (m := ((Ap (xR r) c.name).1).toNat) z3 w (Cu hw)).1, (c9.1.at (m := ((Ap (xR r) c.name).1).toNat) z3 w (Cu hw)).2.2.1⟩), (fun w hw => ⟨(c9.1.at (m := ((Ap (xR r) c.name).1).toNat) z3 w (Cu hw)).2.1, (c9.1.at (m := ((Ap (xR r) c.name).1).toNat) z3 w (Cu hw)).2.2.2⟩)⟩ se pj
    by_cases cm : c.verb = 8
    ·refine Be (Pa (l := ([(2, (Value.func (.func 50) [].toArray [].toArray)), (3, (Value.func (.func 143) [].toArray [].toArray)), (4, (Value.func (.func 144) [].toArray [].toArray)), (6, (Value.func (.func 145) [].toArray [].toArray)), (7, (Value.func (.func 146) [].toArray [].toArray)), (5, (Value.func (.func 147) [].toArray [].toArray)), (8, (Value.func (.func 147) [].toArray [].toArray)), (10, (Value.func (.func 147) [].toArray [].toArray))] : List (Int × Value))) (v := (Value.func (.func 147) [].toArray [].toArray)) c.verb Fz runUnderlying162 runUnderlying3 zeroValue161 hms64 (by rw [((Cf (fun e => k0 e.symm)).trans ((Cf (fun e => j6 e.symm)).trans ((Cf (fun e => m3 e.symm)).trans ((Cf (fun e => p7 e.symm)).trans ((Cf (fun e => ap e.symm)).trans ((Cf (fun e => dh e.symm)).trans (Kc cm.symm)))))))]; rfl)) (k := ?_);refine AI7 ?_;refine Z9 ?_;refine AG9 ?_;refine cC ?_;exact Dl false 0 ((xA r c).state) ((xA r c).rules) ((d9.getD (xN r c) default).ra) ((d9.getD (xN r c) default).rc) ((xA r c).creds) ((d9.getD (xN r c) default).ca) ((d9.getD (xN r c) default).cc) ((xA r c).deadline) ([]) ⟨((((((((Is.refl (Is.xr6 ((((((Is.refl (Is.xr14 (((((hF.f a9).neg b9).neg c7).neg c8).f d5))).neg d8).neg g9).f i0).rn1 hJ20).f j8))).neg k0).neg j6).neg m3).neg p7).neg ap).neg dh).pos cm), (fun w hw => ⟨(c9.1.at (m := ((Ap (xR r) c.name).1).toNat) z3 w (Cu hw)).1, (c9.1.at (m := ((Ap (xR r) c.name).1).toNat) z3 w (Cu hw)).2.2.1⟩), (fun w hw => ⟨(c9.1.at (m := ((Ap (xR r) c.name).1).toNat) z3 w (Cu hw)).2.1, (c9.1.at (m := ((Ap (xR r) c.name).1).toNat) z3 w (Cu hw)).2.2.2⟩)⟩ se pj
    by_cases gx : c.verb = 10;rotate_left
    ·exfalso;omega
    refine Be (Pa (l := ([(2, (Value.func (.func 50) [].toArray [].toArray)), (3, (Value.func (.func 143) [].toArray [].toArray)), (4, (Value.func (.func 144) [].toArray [].toArray)), (6, (Value.func (.func 145) [].toArray [].toArray)), (7, (Value.func (.func 146) [].toArray [].toArray)), (5, (Value.func (.func 147) [].toArray [].toArray)), (8, (Value.func (.func 147) [].toArray [].toArray)), (10, (Value.func (.func 147) [].toArray [].toArray))] : List (Int × Value))) (v := (Value.func (.func 147) [].toArray [].toArray)) c.verb Fz runUnderlying162 runUnderlying3 zeroValue161 hms64 (by rw [((Cf (fun e => k0 e.symm)).trans ((Cf (fun e => j6 e.symm)).trans ((Cf (fun e => m3 e.symm)).trans ((Cf (fun e => p7 e.symm)).trans ((Cf (fun e => ap e.symm)).trans ((Cf (fun e => dh e.symm)).trans ((Cf (fun e => cm e.symm)).trans (Kc gx.symm))))))))]; rfl)) (k := ?_);refine AI7 ?_;refine Z9 ?_;refine AG9 ?_;refine cC ?_;exact Dl false 0 ((xA r c).state) ((xA r c).rules) ((d9.getD (xN r c) default).ra) ((d9.getD (xN r c) default).rc) ((xA r c).creds) ((d9.getD (xN r c) default).ca) ((d9.getD (xN r c) default).cc) ((xA r c).deadline) ([]) ⟨(((((((((Is.refl (Is.xr6 ((((((Is.refl (Is.xr14 (((((hF.f a9).neg b9).neg c7).neg c8).f d5))).neg d8).neg g9).f i0).rn1 hJ20).f j8))).neg k0).neg j6).neg m3).neg p7).neg ap).neg dh).neg cm).pos gx), (fun w hw => ⟨(c9.1.at (m := ((Ap (xR r) c.name).1).toNat) z3 w (Cu hw)).1, (c9.1.at (m := ((Ap (xR r) c.name).1).toNat) z3 w (Cu hw)).2.2.1⟩), (fun w hw => ⟨(c9.1.at (m := ((Ap (xR r) c.name).1).toNat) z3 w (Cu hw)).2.1, (c9.1.at (m := ((Ap (xR r) c.name).1).toNat) z3 w (Cu hw)).2.2.2⟩)⟩ se pj
   refine Be (Pa (l := ([(2, (Value.func (.func 50) [].toArray [].toArray)), (3, (Value.func (.func 143) [].toArray [].toArray)), (4, (Value.func (.func 144) [].toArray [].toArray)), (6, (Value.func (.func 145) [].toArray [].toArray)), (7, (Value.func (.func 146) [].toArray [].toArray)), (5, (Value.func (.func 147) [].toArray [].toArray)), (8, (Value.func (.func 147) [].toArray [].toArray)), (10, (Value.func (.func 147) [].toArray [].toArray))] : List (Int × Value))) (v := (Value.func (.func 146) [].toArray [].toArray)) c.verb Fz runUnderlying162 runUnderlying3 zeroValue161 hms64 (by rw [((Cf (fun e => k0 e.symm)).trans ((Cf (fun e => j6 e.symm)).trans ((Cf (fun e => m3 e.symm)).trans ((Cf (fun e => p7 e.symm)).trans (Kc ap.symm)))))]; rfl)) (k := ?_);refine Rb (args := [_]) (Ai call146) func146 ntmps146 ?_;refine Ry ?_;refine Lo ?_;refine Ah Nt (k := ?_);refine Ah (Al Vg) (k := ?_);refine Ah (Al cV) (k := ?_);refine Iq ?_;refine Lp ?_;refine Ah Kn (k := ?_);refine Z0 ?_;refine Av rfl (fun bk => ?_) (fun bk => ?_);rotate_left
   ·refine nH ?_;refine pQ ?_;refine Su ?_;refine vF ?_;refine Z77 ?_;refine Ah E0 (k := ?_);refine Hd (Ai call162) (fun w1 hw1 => lE w1 (l := ((xA r c).rules)) (at_ := (IntKind.wrap .i64 (0 - (c.at_ + 1)))) (h_l := (fun w hw => ((Dh.j c9.1 sh).at (m := ((Ap (xR r) c.name).1).toNat) z3 w hw).1) w1 hw1) (n_l := by first | omega | (simp; done) | exact (hsm _ z4).1 | exact (hsm _ z4).2) (hG := hG.ext hw1.ext_out) (hE := hE.ext hw1.ext_out)) (k := ?_);rintro d32 c25 d39 xk ⟨td, tk, sr, zw, a03, gv, b38⟩;refine ⟨_, _, zw, xk.fresh a03, ?_⟩;refine St ?_;refine Su ?_;refine Ah (Al Ph) (k := ?_);refine Gv (Bw (l' := [_, _, _, _, _, _, _, _, _, _, _, _, _, _, _, _, _, _, _, _, _, _]) sizeOf49) (k := ?_);refine Lp ?_;refine AI6 ?_;refine Vl ?_;refine Av rfl (fun bu => ?_) (fun bu => ?_);rotate_left
    ·refine Bt ?_;refine Hq ?_;refine bV ?_;refine zU ?_;refine Z72 ?_;refine Kz ?_;refine mB ?_;refine Z8 ?_;exact Dl false 0 ((xA r c).state) ((Ci ((xA r c).rules) (IntKind.wrap .i64 (0 - (c.at_ + 1)))).1) td tk ((xA r c).creds) ((d9.getD (xN r c) default).ca) ((d9.getD (xN r c) default).cc) ((xA r c).deadline) sr ⟨((((((((Is.refl (Is.xr6 ((((((Is.refl (Is.xr14 (((((hF.f a9).neg b9).neg c7).neg c8).f d5))).neg d8).neg g9).f i0).rn1 hJ20).f j8))).neg k0).neg j6).neg m3).neg p7).pos ap).neg bk).neg bu), (fun w hw => ⟨gv.sl Bu (Cu hw), gv.le'⟩), (fun w hw => ⟨(c9.1.at (m := ((Ap (xR r) c.name).1).toNat) z3 w (Cu hw)).2.1, (c9.1.at (m := ((Ap (xR r) c.name).1).toNat) z3 w (Cu hw)).2.2.2⟩)⟩ se pj
    refine Z5 ?_;refine pR ?_;refine Qa ?_;refine zU ?_;refine Z72 ?_;refine Kz ?_;refine mB ?_;refine Z8 ?_;exact Dl true ((Ci ((xA r c).rules) (IntKind.wrap .i64 (0 - (c.at_ + 1)))).2) ((xA r c).state) ((Ci ((xA r c).rules) (IntKind.wrap .i64 (0 - (c.at_ + 1)))).1) td tk ((xA r c).creds) ((d9.getD (xN r c) default).ca) ((d9.getD (xN r c) default).cc) ((xA r c).deadline) sr ⟨((((((((Is.refl (Is.xr6 ((((((Is.refl (Is.xr14 (((((hF.f a9).neg b9).neg c7).neg c8).f d5))).neg d8).neg g9).f i0).rn1 hJ20).f j8))).neg k0).neg j6).neg m3).neg p7).pos ap).neg bk).pos bu), (fun w hw => ⟨gv.sl Bu (Cu hw), gv.le'⟩), (fun w hw => ⟨(c9.1.at (m := ((Ap (xR r) c.name).1).toNat) z3 w (Cu hw)).2.1, (c9.1.at (m := ((Ap (xR r) c.name).1).toNat) z3 w (Cu hw)).2.2.2⟩)⟩ se pj
   refine tL _ _ [((⟨jn, 13, none⟩ : Addr), (Value.bool c.rule.allow)), ((⟨jn, 14, none⟩ : Addr), (vi c.rule.pfx.addr)), ((⟨jn, 15, none⟩ : Addr), (vi c.rule.pfx.bits)), ((⟨jn, 16, none⟩ : Addr), (vi c.rule.prt.lo)), ((⟨jn, 17, none⟩ : Addr), (vi c.rule.prt.hi))] (vp (List.Perm.refl _) (nC nE)) (by repeat (first | exact KC.nil | refine KC.cons z47 rfl ?_)) Cy 23 [(true, 0), (true, 1), (true, 2), (true, 3), (true, 4), (true, 5), (true, 7), (true, 8), (true, 9), (true, 10), (true, 11), (true, 12), (false, 6), (false, 13), (true, 14), (true, 15), (true, 16), (true, 17), (true, 18), (true, 19), (true, 20), (false, 21), (true, 22)] z5 ?_;refine Lb ((Hm).k) (k := ?_);refine Lb ((Hm).k) (k := ?_);refine Lb ((Nt).k) (k := ?_);refine AJ6 ?_;refine Lb ((Al Ph).k) (k := ?_);refine Lb ((Hm).k) (k := ?_);refine Lb ((Hm).k) (k := ?_);refine Lb ((Nt).k) (k := ?_);refine Lb ((Al Vg).k) (k := ?_);refine Lb ((Al uD).k) (k := ?_);refine Lb (W1 (r := jn) (k := 13) (cs := [_, _, _, _, _]) isAgg34 sizeOf34 (by repeat (first | exact kT.nil | refine kT.cons (by repeat (first | exact List.mem_cons_self | apply List.mem_cons_of_mem)) ?_))) (k := ?_);refine AD1 (Ca isAgg49) (k := ?_);refine AX6 (Ai call161) (fun w1 hw1 => lD w1 (l := ((xA r c).rules)) (at_ := c.at_) (r := c.rule) (h_l := (fun w hw => ((Dh.j c9.1 sh).at (m := ((Ap (xR r) c.name).1).toNat) z3 w hw).1) w1 hw1) (n_l := by first | omega | (simp; done) | exact (hsm _ z4).1 | exact (hsm _ z4).2) (hG := hG.ext hw1.ext_out) (hE := hE.ext hw1.ext_out)) (k := ?_);rintro d31 c24 d38 b58 ⟨nf, ni, sq, zv, a02, gt, b37⟩;refine ⟨_, _, _, zv, a02, rfl, ?_⟩;refine Lb ((Hm).k) (k := ?_);refine Lb ((Qh).k) (k := ?_);refine Lb ((Qh).k) (k := ?_);refine Lb ((Nt).k) (k := ?_);refine AJ6 ?_;refine Lb ((Al Ph).k) (k := ?_);refine AX2 (V' := ((jn, oc [(vi ((xA r c).handle.slot)), (vi ((xA r c).handle.gen)), (vt ((xA r c).name)), (vi ((xA r c).state)), (vi ((xA r c).version)), (vs nf ((Cg ((xA r c).rules) c.at_ c.rule).1.length) ni), (vs ((d9.getD (xN r c) default).ca) ((xA r c).creds.length) ((d9.getD (xN r c) default).cc)), (vi ((xA r c).deadline)), (vi (r.seq + 1)), (vi c.verb), (vt c.name), (vi c.want), (vi c.at_), (Value.bool c.rule.allow), (vi c.rule.pfx.addr), (vi c.rule.pfx.bits), (vi c.rule.prt.lo), (vi c.rule.prt.hi), (vt c.key), (vi c.n), (vi c.m), (vi now)] 97) :: [])) (by repeat (first | exact KC.nil | refine KC.cons z47 rfl ?_)) (Bw (l' := [_, _, _, _, _, _, _, _, _, _, _, _, _, _, _, _, _, _, _, _, _, _]) sizeOf49) (k := ?_);refine Lb ((Ey).k) (k := ?_);refine D9 ?_;refine Mf (nC nE) ?_;refine Om ?_;refine AI6 ?_;refine Vl ?_;refine Av rfl (fun al => ?_) (fun al => ?_);rotate_left
   ·refine Bt ?_;refine Hq ?_;refine bV ?_;refine AU2 ?_;refine uS ?_;refine mB ?_;refine Z8 ?_;exact Dl false 0 ((xA r c).state) ((Cg ((xA r c).rules) c.at_ c.rule).1) nf ni ((xA r c).creds) ((d9.getD (xN r c) default).ca) ((d9.getD (xN r c) default).cc) ((xA r c).deadline) sq ⟨((((((((Is.refl (Is.xr6 ((((((Is.refl (Is.xr14 (((((hF.f a9).neg b9).neg c7).neg c8).f d5))).neg d8).neg g9).f i0).rn1 hJ20).f j8))).neg k0).neg j6).neg m3).neg p7).pos ap).pos bk).neg al), (fun w hw => ⟨gt.sl Bu (Cu hw), gt.le'⟩), (fun w hw => ⟨(c9.1.at (m := ((Ap (xR r) c.name).1).toNat) z3 w (Cu hw)).2.1, (c9.1.at (m := ((Ap (xR r) c.name).1).toNat) z3 w (Cu hw)).2.2.2⟩)⟩ se pj
   refine Z5 ?_;refine pR ?_;refine Qa ?_;refine AU2 ?_;refine uS ?_;refine mB ?_;refine Z8 ?_;exact Dl true ((Cg ((xA r c).rules) c.at_ c.rule).2) ((xA r c).state) ((Cg ((xA r c).rules) c.at_ c.rule).1) nf ni ((xA r c).creds) ((d9.getD (xN r c) default).ca) ((d9.getD (xN r c) default).cc) ((xA r c).deadline) sq ⟨((((((((Is.refl (Is.xr6 ((((((Is.refl (Is.xr14 (((((hF.f a9).neg b9).neg c7).neg c8).f d5))).neg d8).neg g9).f i0).rn1 hJ20).f j8))).neg k0).neg j6).neg m3).neg p7).pos ap).pos bk).pos al), (fun w hw => ⟨gt.sl Bu (Cu hw), gt.le'⟩), (fun w hw => ⟨(c9.1.at (m := ((Ap (xR r) c.name).1).toNat) z3 w (Cu hw)).2.1, (c9.1.at (m := ((Ap (xR r) c.name).1).toNat) z3 w (Cu hw)).2.2.2⟩)⟩ se pj
  rintro err_21b err_21 x_22 x_23 w8 y8 x_24 w9 y9 x_25 bt ⟨hJ26, dq, dr⟩;cases err_21b
  rotate_left
  ·refine kY (E2 := [(3, (Value.pointer (some ⟨jm, 0, none⟩))), (4, (Value.pointer (some ⟨ry, 0, none⟩))), (6, (Value.pointer (some ⟨pp, 0, none⟩))), (7, (Value.pointer (some ⟨mw, 0, none⟩))), (8, Value.nilIface), (9, (vi ((Ap (xR r) c.name).1))), (11, (Value.pointer (some ⟨jn, 0, none⟩))), (12, (Value.iface 120 (Value.agg [(vi err_21)].toArray)))]) rfl ?_;refine Hq ?_;refine Z5 ?_;refine Ah (bB (u := (Value.iface 120 (Value.agg [(vi err_21)].toArray))) (v := Value.nilIface) (b := true) (fun w => by kernel_rfl)) (k := ?_);refine gG ?_;refine Z49 ?_;refine Cr ?_;refine cB ?_;refine Bo _ (sx (sd (sk (sk (sd (sd (sk (sk (sk (sk (sa (sk (sk (sk (sk sz))))))))))))))) ?_;refine pU ?_;refine Z7 ?_;refine Z9 ?_;refine kE ?_;refine Aj Af Ln (k := fun r46 b55 => ?_);refine Aj Af z8 (k := fun r47 b56 => ?_);refine fX ?_;exact Gd true err_21 0 0 ([] : Az) 0 0 ([]) none 0 ([]) none 0 0 r.slots.gens i5 d6 r.slots.used o5 o6 r.slots.free q9 t5 r.l d9 ae af ([]) r47 r46 ⟨((((((((Is.refl (Is.xr14 (((((hF.f a9).neg b9).neg c7).neg c8).f d5))).neg d8).neg g9).f i0).rn1 hJ20).f j8).rn6 hJ26).pos rfl), Ga.nil, Ga.nil, (Fl.mono c6 sh), (Fl.mono p5 sh), (Fl.mono p6 sh), ⟨(c9.1.mono sh), c9.2⟩, Mb, Mb, Mb, Mb⟩ se pj
  refine kY (E2 := [(3, (Value.pointer (some ⟨jm, 0, none⟩))), (4, (Value.pointer (some ⟨ry, 0, none⟩))), (6, (Value.pointer (some ⟨pp, 0, none⟩))), (7, (Value.pointer (some ⟨mw, 0, none⟩))), (8, Value.nilIface), (9, (vi ((Ap (xR r) c.name).1))), (11, (Value.pointer (some ⟨jn, 0, none⟩))), (12, Value.nilIface)]) rfl ?_;refine Hq ?_;refine Z5 ?_;refine AH2 ?_;refine Ha rfl ?_;refine Kx ?_;refine Z2 ?_;refine mL ?_;refine bY ?_;refine Fj ?_;refine Fj ?_;refine Ev _ (sa (sk (sk (sk (sd (sk (sk (sk (sk (sk (sa (sk (sk (sk (sk sz))))))))))))))) ?_;refine Ch ?_;refine lY ?_;refine Av rfl (fun di => ?_) (fun di => ?_)
  ·refine Bt ?_;refine Hq ?_;refine Av rfl (fun m4 => ?_) (fun m4 => ?_);rotate_left
   ·exact absurd di m4
   refine Fj ?_;refine AS5 ?_;refine fS ?_;refine AF1 ?_;refine O5 ?_;refine Sd ?_;refine uQ ?_;refine Bo _ (sk (sk (sx (sd (sd (sk (sk (sk (sk (sa (sk (sk (sk (sk sz)))))))))))))) ?_;refine pU ?_;refine Z7 ?_;refine Z9 ?_;refine kE ?_;refine Aj Af Ln (k := fun r38 b47 => ?_);refine Aj Af z8 (k := fun r39 b48 => ?_);refine fX ?_;exact Gd false 0 ((xA r c).handle.slot) ((xA r c).handle.gen) ((xA r c).name) ((xA r c).state) ((xA r c).version) ((xA r c).rules) ((d9.getD (xN r c) default).ra) ((d9.getD (xN r c) default).rc) ((xA r c).creds) ((d9.getD (xN r c) default).ca) ((d9.getD (xN r c) default).cc) ((xA r c).deadline) r.slots.gens i5 d6 r.slots.used o5 o6 r.slots.free q9 t5 r.l d9 ae af ([]) r39 r38 ⟨(((((((((Is.refl (Is.xr14 (((((hF.f a9).neg b9).neg c7).neg c8).f d5))).neg d8).neg g9).f i0).rn1 hJ20).f j8).rn6 hJ26).neg Bool.false_ne_true).pos di), (fun w hw => ⟨(c9.1.at (m := ((Ap (xR r) c.name).1).toNat) z3 w (Cu hw)).1, (c9.1.at (m := ((Ap (xR r) c.name).1).toNat) z3 w (Cu hw)).2.2.1⟩), (fun w hw => ⟨(c9.1.at (m := ((Ap (xR r) c.name).1).toNat) z3 w (Cu hw)).2.1, (c9.1.at (m := ((Ap (xR r) c.name).1).toNat) z3 w (Cu hw)).2.2.2⟩), (Fl.mono c6 sh), (Fl.mono p5 sh), (Fl.mono p6 sh), ⟨(c9.1.mono sh), c9.2⟩, Mb, Mb, Mb, Mb⟩ se pj
  refine Ch ?_;refine lY ?_;refine Av rfl (fun m5 => ?_) (fun m5 => ?_)
  ·refine Bp ?_;refine AS5 ?_;refine fS ?_;refine AF1 ?_;refine O5 ?_;refine Sd ?_;refine uQ ?_;refine Bo _ (sk (sk (sx (sd (sd (sk (sk (sk (sk (sa (sk (sk (sk (sk sz)))))))))))))) ?_;refine pU ?_;refine Z7 ?_;refine Z9 ?_;refine kE ?_;refine Aj Af Ln (k := fun r40 b49 => ?_);refine Aj Af z8 (k := fun r41 b50 => ?_);refine fX ?_;exact Gd false 0 ((xA r c).handle.slot) ((xA r c).handle.gen) ((xA r c).name) ((xA r c).state) ((xA r c).version) ((xA r c).rules) ((d9.getD (xN r c) default).ra) ((d9.getD (xN r c) default).rc) ((xA r c).creds) ((d9.getD (xN r c) default).ca) ((d9.getD (xN r c) default).cc) ((xA r c).deadline) r.slots.gens i5 d6 r.slots.used o5 o6 r.slots.free q9 t5 r.l d9 ae af ([]) r41 r40 ⟨((((((((((Is.refl (Is.xr14 (((((hF.f a9).neg b9).neg c7).neg c8).f d5))).neg d8).neg g9).f i0).rn1 hJ20).f j8).rn6 hJ26).neg Bool.false_ne_true).neg di).pos m5), (fun w hw => ⟨(c9.1.at (m := ((Ap (xR r) c.name).1).toNat) z3 w (Cu hw)).1, (c9.1.at (m := ((Ap (xR r) c.name).1).toNat) z3 w (Cu hw)).2.2.1⟩), (fun w hw => ⟨(c9.1.at (m := ((Ap (xR r) c.name).1).toNat) z3 w (Cu hw)).2.1, (c9.1.at (m := ((Ap (xR r) c.name).1).toNat) z3 w (Cu hw)).2.2.2⟩), (Fl.mono c6 sh), (Fl.mono p5 sh), (Fl.mono p6 sh), ⟨(c9.1.mono sh), c9.2⟩, Mb, Mb, Mb, Mb⟩ se pj
  refine Sg ?_;refine Av rfl (fun fr => ?_) (fun fr => ?_);rotate_left
  ·refine Bt ?_;refine Vw ?_;refine Z5 ?_;refine Su ?_;refine Ah (Al Kr) (k := ?_);refine zY ?_;refine Su ?_;refine AU8 ?_;refine Jl ?_;refine Ex _ _ (vp ((qc (qa q0)).trans (qa (qc (qa q0)))) (nC (nC nE))) Cy 15 [(true, 0), (true, 1), (true, 2), (true, 3), (true, 4), (true, 5), (true, 7), (true, 8), (true, 9), (true, 10), (true, 11), (false, 6), (false, 12), (false, 13), (true, 14)] z5 ?_;refine cD ?_;refine mQ ?_;refine R8 ?_;refine kH ?_;refine mQ ?_;refine R8 ?_;refine kH ?_;refine gJ (Ai call51) (fun w1 hw1 => uH w1 (xs := r.l) (ts := d9) (x := (Aa.mk ((xA r c).handle) ((xA r c).name) x_22 (((xA r c).version) + 1) x_23 x_24 x_25)) (v := (TA.mk w8 y8 w9 y9)) ((Dh.j c9.1 sh).2 w1 hw1) Vi c9.2) (k := ?_);rintro d36 c29 d43 b60 ⟨zj, zn, sv, a00, a07, oa⟩;refine ⟨_, _, _, a00, a07, rfl, ?_⟩;have hdp40 : Bk (m1 ++ (bt ++ [])) DT (Ge r.l (Aa.mk ((xA r c).handle) ((xA r c).name) x_22 (((xA r c).version) + 1) x_23 x_24 x_25)) (aO r.l d9 (Aa.mk ((xA r c).handle) ((xA r c).name) x_22 (((xA r c).version) + 1) x_23 x_24 x_25) (TA.mk w8 y8 w9 y9)) := Bk.put ((Bk.of c9.1).mono sh) (Bk.one (B := (m1 ++ (bt ++ []))) (D := DT) (fun w hw => ⟨(dq w (Cu hw)).1, (dr w (Cu hw)).1, (dq w (Cu hw)).2, (dr w (Cu hw)).2⟩));have b46 := Tw r.l (Aa.mk ((xA r c).handle) ((xA r c).name) x_22 (((xA r c).version) + 1) x_23 x_24 x_25);refine O5 ?_;refine Sd ?_;refine Bo _ (sk (sk (sa (sa (sd (sd (sk (sk (sk (sk (sa (sk (sk (sk (sk sz))))))))))))))) ?_;refine pU ?_;refine Z7 ?_;refine Z9 ?_;refine Bo _ (sd (sd (sa (sa (sk (sk (sd (sd (sa (sk (sk (sk (sk sz))))))))))))) ?_;refine Z50 ?_;refine uR ?_;refine Aj Af Ln (k := fun r44 b53 => ?_);refine Aj Af z8 (k := fun r45 b54 => ?_);refine bU ?_;refine Ce _ (((((((((qa (qa (qc (qc (qa (qa (qc (qa (qa (qa q0)))))))))).trans (qa (qa (qa (qc (qc (qa (qa (qc (qa (qa q0))))))))))).trans (qa (qa (qa (qa (qc (qc (qa (qa (qc (qa q0))))))))))).trans (qa (qa (qa (qa (qa (qc (qc (qa (qa (qc q0))))))))))).trans (qb (qb (qb (qb (qb (qb (qd (qd (qb (qb q0))))))))))).trans (qc (qa (qa (qa (qa (qa q0))))))).trans (qa (qc (qa (qa (qa (qa q0))))))).trans (qb (qb (qd (qb (qb (qb (qb q0)))))))).trans (qd (qb (qb (qd (qb (qb (qb (qb q0))))))))) ?_;refine Bo _ (List.Sublist.append Mc (List.Sublist.append Mc (List.Sublist.cons_cons _ (List.Sublist.cons_cons _ (List.Sublist.append Mc (List.Sublist.cons_cons _ (List.Sublist.cons_cons _ (List.Sublist.cons_cons _ (List.Sublist.cons_cons _ Gx))))))))) ?_;exact Gd false 0 ((xA r c).handle.slot) ((xA r c).handle.gen) ((xA r c).name) x_22 (((xA r c).version) + 1) x_23 w8 y8 x_24 w9 y9 x_25 r.slots.gens i5 d6 r.slots.used o5 o6 r.slots.free q9 t5 (Ge r.l (Aa.mk ((xA r c).handle) ((xA r c).name) x_22 (((xA r c).version) + 1) x_23 x_24 x_25)) (aO r.l d9 (Aa.mk ((xA r c).handle) ((xA r c).name) x_22 (((xA r c).version) + 1) x_23 x_24 x_25) (TA.mk w8 y8 w9 y9)) zj zn (bt ++ sv) r45 r44 ⟨(((((((((((Is.refl (Is.xr14 (((((hF.f a9).neg b9).neg c7).neg c8).f d5))).neg d8).neg g9).f i0).rn1 hJ20).f j8).rn6 hJ26).neg Bool.false_ne_true).neg di).neg m5).neg fr), (fun w hw => ⟨(dq w (Cu hw)).1, (dq w (Cu hw)).2⟩), (fun w hw => ⟨(dr w (Cu hw)).1, (dr w (Cu hw)).2⟩), (Fl.mono c6 sh), (Fl.mono p5 sh), (Fl.mono p6 sh), ⟨((Bg.nb (U := (sv ++ (m1 ++ (bt ++ [])))) Am oa hdp40 (hB := sh) (hR := sh)).mono sh), (by have h0 := oa.le'; rwa [Aw hdp40.1] at h0)⟩, Mb, Mb, Mb, Mb⟩ se pj
  refine Z5 ?_;refine Su ?_;refine Ah (Al Kr) (k := ?_);refine zY ?_;refine Su ?_;refine AU8 ?_;refine Jl ?_;refine tL _ _ [] (vp (qc (qa (qa (qa q0)))) (nC nE)) (by repeat (first | exact KC.nil | refine KC.cons z47 rfl ?_)) Cy 14 [(true, 0), (true, 2), (true, 3), (true, 4), (true, 5), (true, 6), (true, 7), (false, 1), (false, 8), (true, 9), (true, 10), (true, 11), (true, 12), (false, 13)] z5 ?_;refine Lb ((Al Zg).k) (k := ?_);refine Lb ((Hm).k) (k := ?_);refine Lb ((Nt).k) (k := ?_);refine AJ6 ?_;refine Lb ((Al Ix).k) (k := ?_);refine Lb ((Ck isAgg42 sizeOf42).k) (k := ?_);refine AD1 (Ck isAgg25 sizeOf25) (k := ?_);refine AX6 (Ai call113) (fun w1 hw1 => I1 w1 (s := r.slots) (h := ((xA r c).handle)) (h_s_gens := (Fl.slj c6) w1 hw1) (n_s_gens := by first | omega | (simp; done) | exact (hsm _ z4).1 | exact (hsm _ z4).2) (h_s_used := (Fl.slj p5) w1 hw1) (n_s_used := by first | omega | (simp; done) | exact (hsm _ z4).1 | exact (hsm _ z4).2) (h_s_free := (Fl.slj p6) w1 hw1) (n_s_free := by first | omega | (simp; done) | exact (hsm _ z4).1 | exact (hsm _ z4).2)) (k := ?_);rintro d33 c26 d40 b59 ⟨tf, tm, tg, tq, th, tt, b03, zx, a04, xh, xi, xj, b39, b40, b41⟩;refine ⟨_, _, _, zx, a04, rfl, ?_⟩;refine Lb ((Hm).k) (k := ?_);refine Lb ((Qh).k) (k := ?_);refine Lb ((Qh).k) (k := ?_);refine Lb ((Al Zg).k) (k := ?_);refine AX2 (V' := ((jm, oc [(vs tf ((Gb r.slots ((xA r c).handle)).1.gens.length) tm), (vs tg ((Gb r.slots ((xA r c).handle)).1.used.length) tq), (vs th ((Gb r.slots ((xA r c).handle)).1.free.length) tt), (vs ae r.l.length af), (vi (r.seq + 1))] 28) :: [])) (by repeat (first | exact KC.nil | refine KC.cons z47 rfl ?_)) (Bw (l' := [_, _, _, _, _]) sizeOf25) (k := ?_);refine D9 ?_;refine Mf (nC nE) ?_;refine Pl ?_;refine Z83 ?_;refine Hd (Ai call115) (fun w1 hw1 => xZ w1 (xs := r.l) (ts := d9) ((Dh.j c9.1 sh).2 w1 hw1) Vi) (k := ?_);rintro d34 c27 d41 xl ⟨c21, c22, c18, zy, a05, wq⟩;refine ⟨_, _, zy, xl.fresh a05, ?_⟩;have hdp38 : Bk (m1 ++ []) DT r.l d9 := ((Bk.of c9.1).mono sh)
  refine pQ ?_;refine Wx ?_;refine Hd (Ai call114) (fun w1 hw1 => AB0 w1 (i := ((Ap (xR r) c.name).1)) (j := (((Ap (xR r) c.name).1) + 1)) wq (sho hw1) hdp38.1 Vi Vi) (k := ?_);rintro d35 c28 d42 xm ⟨zi, zm, su, zz, a06, nz⟩;refine ⟨_, _, zz, (xm.perm q0).tr a06, ?_⟩;have hdp39 : Bk (m1 ++ []) DT (delL r.l ((Ap (xR r) c.name).1).toNat (((Ap (xR r) c.name).1) + 1).toNat) (delL d9 ((Ap (xR r) c.name).1).toNat (((Ap (xR r) c.name).1) + 1).toNat) := Bk.delL hdp38 _ _;have b34 : (delL r.l ((Ap (xR r) c.name).1).toNat (((Ap (xR r) c.name).1) + 1).toNat).length = r.l.length - 1 := by rw [Hj z4 z4]; omega
  refine Ah (Al Iw) (k := ?_);refine T8 ?_;refine Jl ?_;refine Ex _ _ (vp ((qc (qa (qc (qc (qa q0))))).trans (qa (qc (qa (qc (qc (qa q0))))))) (nC (nC nE))) Cy 9 [(true, 0), (true, 1), (true, 2), (true, 3), (true, 4), (true, 5), (false, 6), (false, 7), (true, 8)] z5 ?_;refine cD ?_;refine mQ ?_;refine R8 ?_;refine kH ?_;refine O5 ?_;refine Sd ?_;refine uQ ?_;refine Bo _ (sk (sk (sa (sd (sa (sa (sd (sk (sk (sk (sk (sa (sk (sk (sk (sk sz)))))))))))))))) ?_;refine pU ?_;refine Z7 ?_;refine Z9 ?_;refine Bo _ (sd (sd (sa (sa (sa (sk (sk (sd (sd (sa (sk (sk (sk (sk sz)))))))))))))) ?_;refine Z50 ?_;refine uR ?_;refine Aj Af Ln (k := fun r42 b51 => ?_);refine Aj Af z8 (k := fun r43 b52 => ?_);refine bU ?_;refine Ce _ ((((((((((qa (qa (qc (qc (qc (qa (qa (qc (qa (qa (qa q0))))))))))).trans (qa (qa (qa (qc (qc (qc (qa (qa (qc (qa (qa q0)))))))))))).trans (qa (qa (qa (qa (qc (qc (qc (qa (qa (qc (qa q0)))))))))))).trans (qa (qa (qa (qa (qa (qc (qc (qc (qa (qa (qc q0)))))))))))).trans (qb (qb (qb (qb (qb (qb (qd (qd (qd (qb (qb q0)))))))))))).trans (qc (qa (qa (qa (qa (qa q0))))))).trans (qa (qc (qa (qa (qa (qa q0))))))).trans (qb (qb (qd (qb (qb (qb (qb q0)))))))).trans (qd (qb (qb (qd (qb (qb (qb (qb q0))))))))).trans (qd (qd (qb (qb (qd (qb (qb (qb (qb q0)))))))))) ?_;refine AV6 ?_;exact Gd false 0 ((xA r c).handle.slot) ((xA r c).handle.gen) ((xA r c).name) x_22 (((xA r c).version) + 1) x_23 w8 y8 x_24 w9 y9 x_25 ((Gb r.slots ((xA r c).handle)).1.gens) tf tm ((Gb r.slots ((xA r c).handle)).1.used) tg tq ((Gb r.slots ((xA r c).handle)).1.free) th tt (delL r.l ((Ap (xR r) c.name).1).toNat (((Ap (xR r) c.name).1) + 1).toNat) (delL d9 ((Ap (xR r) c.name).1).toNat (((Ap (xR r) c.name).1) + 1).toNat) zi zm (bt ++ (b03 ++ su)) r43 r42 ⟨(((((((((((Is.refl (Is.xr14 (((((hF.f a9).neg b9).neg c7).neg c8).f d5))).neg d8).neg g9).f i0).rn1 hJ20).f j8).rn6 hJ26).neg Bool.false_ne_true).neg di).neg m5).pos fr), (fun w hw => ⟨(dq w (Cu hw)).1, (dq w (Cu hw)).2⟩), (fun w hw => ⟨(dr w (Cu hw)).1, (dr w (Cu hw)).2⟩), (Fl.mono xh sh), (Fl.mono xi sh), (Fl.mono xj sh), ⟨((Bg.nb (U := (su ++ (m1 ++ []))) Am nz hdp39 (hB := sh) (hR := sh)).mono sh), (by have h0 := nz.le'; rwa [Aw hdp39.1] at h0)⟩, Mb, Mb, Mb, Mb⟩ se pj
 rintro err_1b err_1 x_2 x_3 x_4 x_5 x_6 x_7 am au x_8 dj ef x_9 x_10 ak aq x_11 dt fd x_12 du fe x_13 jd dv dw n9 ic gc ⟨hJ14, ia, a69, pg, a64, a65, ⟨a66, wo⟩, hi15, hi16, hi17, hi18⟩;cases err_1b
 rotate_left
 ·refine kY (E2 := [(4, (Value.pointer (some ⟨r1, 0, none⟩))), (8, (Value.pointer (some ⟨r3, 0, none⟩))), (9, (Value.pointer (some ⟨r4, 0, none⟩))), (10, (Value.pointer (some ⟨gc, 0, none⟩))), (11, (Value.pointer (some ⟨ic, 0, none⟩))), (12, (Value.iface 120 (Value.agg [(vi err_1)].toArray)))]) rfl ?_;refine Zz ?_;refine Ev _ (sa (sk (sk (sa (sk (sk (sd (sk sz)))))))) ?_;refine Yo (σ1 := Nat) (fun ig => ((ig, oc [(vi err_1), (vi (r.seq + 1)), (vi x_2), (vi x_3), (vi x_6), (vi x_5)] 44) :: (n9 ++ ((ic, oc [(vi x_2), (vi x_3), (vt x_4), (vi x_5), (vi x_6), (vs am x_7.length au), (vs dj x_8.length ef), (vi x_9)] 52) :: ((gc, oc [(vs ak x_10.length aq), (vs dt x_11.length fd), (vs du x_12.length fe), (vs dv x_13.length dw), (vi (r.seq + 1))] 28) :: (m1 ++ ((r4, oc [(vi 0), (vi 0), (vi 0), (vi 0), (vi 0), (vi 0)] 44) :: ((r3, oc [(vs none 0 0), (vs none 0 0), (vs none 0 0), (vs none 0 0), (vi 0)] 28) :: ((r1, oc [(vs i5 r.slots.gens.length d6), (vs o5 r.slots.used.length o6), (vs q9 r.slots.free.length t5), (vs ae r.l.length af), (vi (r.seq + 1))] 28) :: []))))))))) (fun ig => [(4, (Value.pointer (some ⟨r1, 0, none⟩))), (8, (Value.pointer (some ⟨r3, 0, none⟩))), (9, (Value.pointer (some ⟨r4, 0, none⟩))), (10, (Value.pointer (some ⟨gc, 0, none⟩))), (12, (Value.iface 120 (Value.agg [(vi err_1)].toArray))), (13, (Value.pointer (some ⟨ig, 0, none⟩)))]) (fun ig => Is () ()) ?_ ?_
  ·skip;refine Vy (V := []) Cy 12 z5 ?_;refine wA ?_;refine Dn 2 rfl z5 (Al Mw) (k := ?_);refine Dn 3 rfl z5 zE (k := ?_);refine Dn 4 rfl z5 (Al Ix) (k := ?_);refine Dn 5 rfl z5 (Ck isAgg42 sizeOf42) (k := ?_);refine Dn 6 rfl z5 (Al Kr) (k := ?_);refine Dn 7 rfl z5 zE (k := ?_);refine Dn 8 rfl z5 (Al Ri) (k := ?_);refine Dn 9 rfl z5 zE (k := ?_);refine Bl [1, 11] z5 rfl (List.forall_mem_cons.2 ⟨?_, (List.forall_mem_cons.2 ⟨?_, nofun⟩)⟩)
   ·skip;refine AT3 ?_;refine Bl [11] z5 rfl (List.forall_mem_cons.2 ⟨?_, nofun⟩)
    ·skip;refine Fw rfl Af gX (k := fun ig a53 => ?_);refine Q6 ?_;refine Gz ?_;exact Jh ig (Is.refl ()) se (List.Perm.refl _)
   ·skip;refine Fw rfl Af gX (k := fun ig a53 => ?_);refine Bl [1] z5 rfl (List.forall_mem_cons.2 ⟨?_, nofun⟩)
    ·skip;refine AT3 ?_;refine Q6 ?_;refine Gz ?_;exact Jh ig (Is.refl ()) se (List.Perm.refl _)
  intro ig hJ28;refine Zz ?_;refine Fj ?_;refine Ev _ (sk (sa (sd (sk (sa (sk (sk (sk sz)))))))) ?_;refine Ch ?_;refine Ah (Al uG) (k := ?_);refine Ah (Ca isAgg40) (k := ?_);refine zP ?_;refine T9 ?_;refine Aj Af gX (k := fun e61 d11 => ?_);refine U0 ?_;refine Om ?_;refine Ah (bB (u := (Value.iface 120 (Value.agg [(vi err_1)].toArray))) (v := Value.nilIface) (b := true) (fun w => by kernel_rfl)) (k := ?_);refine Z0 ?_;refine Nn rfl ?_;refine Fj ?_;refine Ex _ _ (vp ((qa (qa (qc (qa (qc q0))))).trans (qa (qa (qa (qc (qa (qc q0))))))) (nC (nC nE))) Cy 4 [(true, 0), (true, 1), (false, 2), (false, 3)] z5 ?_;refine cD ?_;refine Be (Ck isAgg44 sizeOf44) (k := ?_);refine AF8 ?_;refine Kz ?_;refine pY ?_;refine Eg ?_;refine Ad results17 z27 (fun w1 hw1 => ?_);exact ⟨i5, d6, o5, o6, q9, t5, ae, af, d9, m1, (rq ((((((((hF.f a9).neg b9).neg c7).neg c8).f d5).rn14 hJ14).pos rfl).rn0 hJ28)), (Bd (L := m1) (hw1.perm (qb (qb (qb (qb (qd (qb q0))))))) rfl.symm), (by rw [((((((((hF.f a9).neg b9).neg c7).neg c8).f d5).rn14 hJ14).pos rfl).rn0 hJ28).eq]; exact (c6.mono yX)), (by rw [((((((((hF.f a9).neg b9).neg c7).neg c8).f d5).rn14 hJ14).pos rfl).rn0 hJ28).eq]; exact (p5.mono yX)), (by rw [((((((((hF.f a9).neg b9).neg c7).neg c8).f d5).rn14 hJ14).pos rfl).rn0 hJ28).eq]; exact (p6.mono yX)), (by rw [((((((((hF.f a9).neg b9).neg c7).neg c8).f d5).rn14 hJ14).pos rfl).rn0 hJ28).eq]; exact ⟨(c9.1.mono sh), c9.2⟩), (rl ((((((((hF.f a9).neg b9).neg c7).neg c8).f d5).rn14 hJ14).pos rfl).rn0 hJ28)), (rl ((((((((hF.f a9).neg b9).neg c7).neg c8).f d5).rn14 hJ14).pos rfl).rn0 hJ28)), (rl ((((((((hF.f a9).neg b9).neg c7).neg c8).f d5).rn14 hJ14).pos rfl).rn0 hJ28)), (rl ((((((((hF.f a9).neg b9).neg c7).neg c8).f d5).rn14 hJ14).pos rfl).rn0 hJ28))⟩
 refine kY (E2 := [(4, (Value.pointer (some ⟨r1, 0, none⟩))), (8, (Value.pointer (some ⟨r3, 0, none⟩))), (9, (Value.pointer (some ⟨r4, 0, none⟩))), (10, (Value.pointer (some ⟨gc, 0, none⟩))), (11, (Value.pointer (some ⟨ic, 0, none⟩))), (12, Value.nilIface)]) rfl ?_;refine Zz ?_;refine Ev _ (sa (sk (sk (sa (sk (sk (sd (sk sz)))))))) ?_;refine Yo (σ1 := Nat) (fun ie => ((ie, oc [(vi 0), (vi (r.seq + 1)), (vi x_2), (vi x_3), (vi x_6), (vi x_5)] 44) :: (n9 ++ ((ic, oc [(vi x_2), (vi x_3), (vt x_4), (vi x_5), (vi x_6), (vs am x_7.length au), (vs dj x_8.length ef), (vi x_9)] 52) :: ((gc, oc [(vs ak x_10.length aq), (vs dt x_11.length fd), (vs du x_12.length fe), (vs dv x_13.length dw), (vi (r.seq + 1))] 28) :: (m1 ++ ((r4, oc [(vi 0), (vi 0), (vi 0), (vi 0), (vi 0), (vi 0)] 44) :: ((r3, oc [(vs none 0 0), (vs none 0 0), (vs none 0 0), (vs none 0 0), (vi 0)] 28) :: ((r1, oc [(vs i5 r.slots.gens.length d6), (vs o5 r.slots.used.length o6), (vs q9 r.slots.free.length t5), (vs ae r.l.length af), (vi (r.seq + 1))] 28) :: []))))))))) (fun ie => [(4, (Value.pointer (some ⟨r1, 0, none⟩))), (8, (Value.pointer (some ⟨r3, 0, none⟩))), (9, (Value.pointer (some ⟨r4, 0, none⟩))), (10, (Value.pointer (some ⟨gc, 0, none⟩))), (12, Value.nilIface), (13, (Value.pointer (some ⟨ie, 0, none⟩)))]) (fun ie => Is () ()) ?_ ?_
 ·skip;refine Vy (V := []) Cy 12 z5 ?_;refine wA ?_;refine Dn 2 rfl z5 (Al Mw) (k := ?_);refine Dn 3 rfl z5 zE (k := ?_);refine Dn 4 rfl z5 (Al Ix) (k := ?_);refine Dn 5 rfl z5 (Ck isAgg42 sizeOf42) (k := ?_);refine Dn 6 rfl z5 (Al Kr) (k := ?_);refine Dn 7 rfl z5 zE (k := ?_);refine Dn 8 rfl z5 (Al Ri) (k := ?_);refine Dn 9 rfl z5 zE (k := ?_);refine Bl [1, 11] z5 rfl (List.forall_mem_cons.2 ⟨?_, (List.forall_mem_cons.2 ⟨?_, nofun⟩)⟩)
  ·skip;refine AT5 ?_;refine Bl [11] z5 rfl (List.forall_mem_cons.2 ⟨?_, nofun⟩)
   ·skip;refine Fw rfl Af gX (k := fun ie a40 => ?_);refine Q6 ?_;refine Gz ?_;exact Jh ie (Is.refl ()) se (List.Perm.refl _)
  ·skip;refine Fw rfl Af gX (k := fun ie a40 => ?_);refine Bl [1] z5 rfl (List.forall_mem_cons.2 ⟨?_, nofun⟩)
   ·skip;refine AT5 ?_;refine Q6 ?_;refine Gz ?_;exact Jh ie (Is.refl ()) se (List.Perm.refl _)
 intro ie hJ27;refine Zz ?_;refine Fj ?_;refine Ev _ (sk (sa (sd (sk (sa (sk (sk (sk sz)))))))) ?_;refine Ch ?_;refine Ah (Al uG) (k := ?_);refine Ah (Ca isAgg40) (k := ?_);refine zP ?_;refine T9 ?_;refine Aj Af gX (k := fun e55 c86 => ?_);refine U0 ?_;refine Om ?_;refine AH2 ?_;refine Ha rfl ?_;refine Kx ?_;refine Ev _ (sd (sk (sa (sk (sa (sk (sk (sd sz)))))))) ?_;refine Ex _ _ (vp ((qa (qc (qa (qc q0)))).trans (qa (qa (qc (qa (qc q0)))))) (nC (nC nE))) Cy 4 [(true, 0), (true, 1), (false, 2), (false, 3)] z5 ?_;refine cD ?_;refine Be (Ck isAgg44 sizeOf44) (k := ?_);refine AF8 ?_;refine Kz ?_;refine pY ?_;refine Ad results17 z27 (fun w1 hw1 => ?_);exact ⟨ak, aq, dt, fd, du, fe, dv, dw, jd, (m1 ++ n9), (rq ((((((((hF.f a9).neg b9).neg c7).neg c8).f d5).rn14 hJ14).neg Bool.false_ne_true).rn0 hJ27)), (Bd (L := (m1 ++ n9)) (hw1.perm ((qb (qb (qb q0))).trans (qd (qb (qb (qb (qb q0))))))) (nA rfl).symm), (by rw [((((((((hF.f a9).neg b9).neg c7).neg c8).f d5).rn14 hJ14).neg Bool.false_ne_true).rn0 hJ27).eq]; exact (pg.mono yX)), (by rw [((((((((hF.f a9).neg b9).neg c7).neg c8).f d5).rn14 hJ14).neg Bool.false_ne_true).rn0 hJ27).eq]; exact (a64.mono yX)), (by rw [((((((((hF.f a9).neg b9).neg c7).neg c8).f d5).rn14 hJ14).neg Bool.false_ne_true).rn0 hJ27).eq]; exact (a65.mono yX)), (by rw [((((((((hF.f a9).neg b9).neg c7).neg c8).f d5).rn14 hJ14).neg Bool.false_ne_true).rn0 hJ27).eq]; exact ⟨(a66.mono sh), wo⟩), (rl ((((((((hF.f a9).neg b9).neg c7).neg c8).f d5).rn14 hJ14).neg Bool.false_ne_true).rn0 hJ27)), (rl ((((((((hF.f a9).neg b9).neg c7).neg c8).f d5).rn14 hJ14).neg Bool.false_ne_true).rn0 hJ27)), (rl ((((((((hF.f a9).neg b9).neg c7).neg c8).f d5).rn14 hJ14).neg Bool.false_ne_true).rn0 hJ27)), (rl ((((((((hF.f a9).neg b9).neg c7).neg c8).f d5).rn14 hJ14).neg Bool.false_ne_true).rn0 hJ27))⟩

theorem Qu (w : World) {r_Sg_a : Option Addr} {r_Sg_c : Nat} {r_Su_a : Option Addr} {r_Su_c : Nat} {r_Sf_a : Option Addr} {r_Sf_c : Nat} {r_l_a : Option Addr} {r_l_c : Nat} {r_l_t : List TA} {ea0 : Addr} {ea1 : Addr} {ea2 : Addr} {ea3 : Addr} {r : Ab} {role : Int} {c : Ak} {now : Int} (h_r_Sg : Sl w eI 1 r_Sg_a r.slots.gens) (n_r_Sg : r.slots.gens.length ≤ 1000) (h_r_Su : Sl w eB 1 r_Su_a r.slots.used) (n_r_Su : r.slots.used.length ≤ 1000) (h_r_Sf : Sl w eI 1 r_Sf_a r.slots.free) (n_r_Sf : r.slots.free.length ≤ 1000) (h_r_l : Wc w Cn 8 DT r_l_a r.l r_l_t) (n_r_l : r.l.length ≤ 1000) (k_r_l : r.l.length ≤ r_l_c) (i_c_at_ : -9223372036854775808 ≤ c.at_ ∧ c.at_ ≤ 9223372036854775807) (hG : Gl w) (hE : Er w ea0 ea1 ea2 ea3) (hsm : Cv r.l) : Calls Tryz.prog 17 (List.toArray [(Value.agg [(vs r_Sg_a r.slots.gens.length r_Sg_c), (vs r_Su_a r.slots.used.length r_Su_c), (vs r_Sf_a r.slots.free.length r_Sf_c), (vs r_l_a r.l.length r_l_c), (vi r.seq)].toArray), (vi role), (Value.agg [(vi c.verb), (vt c.name), (vi c.want), (vi c.at_), (Value.bool c.rule.allow), (vi c.rule.pfx.addr), (vi c.rule.pfx.bits), (vi c.rule.prt.lo), (vi c.rule.prt.hi), (vt c.key), (vi c.n), (vi c.m)].toArray), (vi now)]) w fun e w2 => ∃ a1 : Option Addr, ∃ c1 : Nat, ∃ a2 : Option Addr, ∃ c2 : Nat, ∃ a3 : Option Addr, ∃ c3 : Nat, ∃ a4 : Option Addr, ∃ c4 : Nat, ∃ t4 : List TA, ∃ B : An, e = .returned (Value.tuple [(Value.agg [(vs a1 ((Aq r role c now).1.slots.gens.length) c1), (vs a2 ((Aq r role c now).1.slots.used.length) c2), (vs a3 ((Aq r role c now).1.slots.free.length) c3), (vs a4 ((Aq r role c now).1.l.length) c4), (vi ((Aq r role c now).1.seq))].toArray), (Value.agg [(vi ((Aq r role c now).2.err)), (vi ((Aq r role c now).2.seq)), (vi ((Aq r role c now).2.handle.slot)), (vi ((Aq r role c now).2.handle.gen)), (vi ((Aq r role c now).2.version)), (vi ((Aq r role c now).2.state))].toArray)].toArray) ∧ Dj w w2 B ∧ Fl B eI 1 a1 (Aq r role c now).1.slots.gens ∧ Fl B eB 1 a2 (Aq r role c now).1.slots.used ∧ Fl B eI 1 a3 (Aq r role c now).1.slots.free ∧ (Dh B Cn 8 DT a4 (Aq r role c now).1.l t4 ∧ (Aq r role c now).1.l.length ≤ c4) ∧ (Aq r role c now).1.slots.gens.length ≤ 1000 ∧ (Aq r role c now).1.slots.used.length ≤ 1000 ∧ (Aq r role c now).1.slots.free.length ≤ 1000 ∧ (Aq r role c now).1.l.length ≤ 1000 := by
 have h := sO w (r_Sg_a := r_Sg_a) (r_Sg_c := r_Sg_c) (r_Su_a := r_Su_a) (r_Su_c := r_Su_c) (r_Sf_a := r_Sf_a) (r_Sf_c := r_Sf_c) (r_l_a := r_l_a) (r_l_c := r_l_c) (r_l_t := r_l_t) (ea0 := ea0) (ea1 := ea1) (ea2 := ea2) (ea3 := ea3) (r := r) (role := role) (c := c) (now := now) h_r_Sg n_r_Sg h_r_Su n_r_Su h_r_Sf n_r_Sf h_r_l n_r_l k_r_l i_c_at_ hG hE hsm;simp only [sN] at h;exact h

end Go.Proofs.YtopjaeoklkpcpaaGreatDoor.Jd

namespace Go.Proofs.YtopjaeoklkpcpaaGreatDoor.Jd
open Go.Proofs.Tryz
open Go.Proofs
open Go.RowKit (Below)
set_option maxRecDepth 100000
set_option maxHeartbeats 8000000
set_option linter.unusedVariables false
set_option linter.unusedSimpArgs false
theorem yR (w : World) {ea0 : Addr} {ea1 : Addr} {ea2 : Addr} {ea3 : Addr} (hG : Gl w) (hE : Er w ea0 ea1 ea2 ea3) : Jc Tryz.prog 14 [] w (Value.bool fB) := by
 have hF := Is.refl fB;refine enter func14 ntmps14 (h := ?_);refine Ry ?_;refine Hd (Ai call29) (fun w1 hw1 => AA6 w1 (n_ := 2)) (k := ?_);rintro cy cr cz l9 ⟨i5, d6, o5, o6, q9, t5, ae, af, d9, m1, p9, y6, c6, p5, p6, c9, fx, tu, tv, a10⟩;refine ⟨_, _, p9, l9.fresh y6, ?_⟩;refine St ?_;refine Aj Af Ln (k := fun r1 p4 => ?_);refine kG ?_;refine Lo ?_;refine Vl ?_;refine Av rfl (fun a9 => ?_) (fun a9 => ?_)
 ·refine Bp ?_;refine Qc ?_;refine Ad results14 z1 (fun w1 hw1 => ?_);exact ⟨(rq (hF.pos a9)), hw1.ext_out⟩
 refine Xv ?_;refine sZ ?_;refine Ah (Eb (cs := [_, _, _, _, _, _, _, _, _, _, _, _]) zeroValue36 AD7) (k := ?_);refine Hd (Ai call17) (fun w1 hw1 => Qu w1 (r := ((Ep 2).1)) (role := 3) (c := (Ak.mk 1 ([97, 99, 109, 101] : Az) 0 0 (Bf.mk false (Au.mk 0 0) (Ao.mk 0 0)) ([107] : Az) 100 0)) (now := 0) (h_r_Sg := (Fl.slj c6) w1 hw1) (n_r_Sg := z7) (h_r_Su := (Fl.slj p5) w1 hw1) (n_r_Su := z7) (h_r_Sf := (Fl.slj p6) w1 hw1) (n_r_Sf := z7) (h_r_l := (Dh.j c9.1 sh).2 w1 hw1) (n_r_l := z7) (k_r_l := c9.2) (i_c_at_ := z44) (hG := hG.ext hw1.ext_out) (hE := hE.ext hw1.ext_out) (hsm := N6)) (k := ?_);rintro mq lz mr bf ⟨cp, cq, gi, gk, gj, gm, jr, jt, b88, qp, dg, em, iv, iw, iy, iz, nw, nx, ny, tw⟩;refine ⟨_, _, dg, bf.fresh em, ?_⟩;have zt := Ks 3 (Ak.mk 1 ([97, 99, 109, 101] : Az) 0 0 (Bf.mk false (Au.mk 0 0) (Ao.mk 0 0)) ([107] : Az) 100 0) 0 (by first | assumption | exact Cv.nil : Cv ((Ep 2).1.l));refine St ?_;refine Aj Af gX (k := fun r2 bv => ?_);refine gY ?_;refine Jl ?_;refine Ev _ (sk (sa (sk (sx sz)))) ?_;refine AH6 ?_;refine Hd (Ai call17) (fun w1 hw1 => Qu w1 (r := ((Aq ((Ep 2).1) 3 (Ak.mk 1 ([97, 99, 109, 101] : Az) 0 0 (Bf.mk false (Au.mk 0 0) (Ao.mk 0 0)) ([107] : Az) 100 0) 0).1)) (role := 2) (c := (Ak.mk 2 ([97, 99, 109, 101] : Az) 0 0 (Bf.mk false (Au.mk 0 0) (Ao.mk 0 0)) ([] : Az) 0 0)) (now := 1) (h_r_Sg := (Fl.slj iv) w1 hw1) (n_r_Sg := z7) (h_r_Su := (Fl.slj iw) w1 hw1) (n_r_Su := z7) (h_r_Sf := (Fl.slj iy) w1 hw1) (n_r_Sf := z7) (h_r_l := (Dh.j iz.1 sh).2 w1 hw1) (n_r_l := z7) (k_r_l := iz.2) (i_c_at_ := z44) (hG := hG.ext hw1.ext_out) (hE := hE.ext hw1.ext_out) (hsm := N6)) (k := ?_);rintro rz qq sf cw ⟨dy, dz, ls, lw, lv, ly, d53, d60, e62, B_3, gn, kb, a57, a59, a61, uf, a08, c33, c37, c40⟩;refine ⟨_, _, gn, cw.fresh kb, ?_⟩;have yr := Ks 2 (Ak.mk 2 ([97, 99, 109, 101] : Az) 0 0 (Bf.mk false (Au.mk 0 0) (Ao.mk 0 0)) ([] : Az) 0 0) 1 (by first | assumption | exact Cv.nil : Cv ((Aq ((Ep 2).1) 3 (Ak.mk 1 ([97, 99, 109, 101] : Az) 0 0 (Bf.mk false (Au.mk 0 0) (Ao.mk 0 0)) ([107] : Az) 100 0) 0).1.l));refine St ?_;refine Aj Af gX (k := fun r3 iu => ?_);refine gY ?_;refine Jl ?_;refine Ev _ (sk (sa (sk (sx (sk sz))))) ?_;refine AH6 ?_;refine Hd (Ai call17) (fun w1 hw1 => Qu w1 (r := ((Aq ((Aq ((Ep 2).1) 3 (Ak.mk 1 ([97, 99, 109, 101] : Az) 0 0 (Bf.mk false (Au.mk 0 0) (Ao.mk 0 0)) ([107] : Az) 100 0) 0).1) 2 (Ak.mk 2 ([97, 99, 109, 101] : Az) 0 0 (Bf.mk false (Au.mk 0 0) (Ao.mk 0 0)) ([] : Az) 0 0) 1).1)) (role := 2) (c := (Ak.mk 2 ([97, 99, 109, 101] : Az) 0 0 (Bf.mk false (Au.mk 0 0) (Ao.mk 0 0)) ([] : Az) 0 0)) (now := 2) (h_r_Sg := (Fl.slj a57) w1 hw1) (n_r_Sg := z7) (h_r_Su := (Fl.slj a59) w1 hw1) (n_r_Su := z7) (h_r_Sf := (Fl.slj a61) w1 hw1) (n_r_Sf := z7) (h_r_l := (Dh.j uf.1 sh).2 w1 hw1) (n_r_l := z7) (k_r_l := uf.2) (i_c_at_ := z44) (hG := hG.ext hw1.ext_out) (hE := hE.ext hw1.ext_out) (hsm := N6)) (k := ?_);rintro sb qr sg dp ⟨k9, l4, lu, lx, d51, d58, d54, d61, e63, B_4, gp, kc, a58, a60, a62, ug, a09, c34, c38, c41⟩;refine ⟨_, _, gp, dp.fresh kc, ?_⟩;have yq := Ks 2 (Ak.mk 2 ([97, 99, 109, 101] : Az) 0 0 (Bf.mk false (Au.mk 0 0) (Ao.mk 0 0)) ([] : Az) 0 0) 2 (by first | assumption | exact Cv.nil : Cv ((Aq ((Aq ((Ep 2).1) 3 (Ak.mk 1 ([97, 99, 109, 101] : Az) 0 0 (Bf.mk false (Au.mk 0 0) (Ao.mk 0 0)) ([107] : Az) 100 0) 0).1) 2 (Ak.mk 2 ([97, 99, 109, 101] : Az) 0 0 (Bf.mk false (Au.mk 0 0) (Ao.mk 0 0)) ([] : Az) 0 0) 1).1.l));refine St ?_;refine Aj Af gX (k := fun r4 jl => ?_);refine gY ?_;refine Jl ?_;refine Ev _ (sk (sa (sk (sx (sk (sk sz)))))) ?_;refine AH6 ?_;refine Hd (Ai call17) (fun w1 hw1 => Qu w1 (r := ((Aq ((Aq ((Aq ((Ep 2).1) 3 (Ak.mk 1 ([97, 99, 109, 101] : Az) 0 0 (Bf.mk false (Au.mk 0 0) (Ao.mk 0 0)) ([107] : Az) 100 0) 0).1) 2 (Ak.mk 2 ([97, 99, 109, 101] : Az) 0 0 (Bf.mk false (Au.mk 0 0) (Ao.mk 0 0)) ([] : Az) 0 0) 1).1) 2 (Ak.mk 2 ([97, 99, 109, 101] : Az) 0 0 (Bf.mk false (Au.mk 0 0) (Ao.mk 0 0)) ([] : Az) 0 0) 2).1)) (role := 1) (c := (Ak.mk 5 ([97, 99, 109, 101] : Az) 0 0 (Bf.mk false (Au.mk 0 0) (Ao.mk 0 0)) ([] : Az) 0 0)) (now := 3) (h_r_Sg := (Fl.slj a58) w1 hw1) (n_r_Sg := z7) (h_r_Su := (Fl.slj a60) w1 hw1) (n_r_Su := z7) (h_r_Sf := (Fl.slj a62) w1 hw1) (n_r_Sf := z7) (h_r_l := (Dh.j ug.1 sh).2 w1 hw1) (n_r_l := z7) (k_r_l := ug.2) (i_c_at_ := z44) (hG := hG.ext hw1.ext_out) (hE := hE.ext hw1.ext_out) (hsm := N6)) (k := ?_);rintro sc qs si ez ⟨nh, nk, d49, d56, d52, d59, d55, d62, e64, B_5, gq, ke, uc, ud, ue, lh, c31, c35, c39, c42⟩;refine ⟨_, _, gq, ez.fresh ke, ?_⟩;have yt := Ks 1 (Ak.mk 5 ([97, 99, 109, 101] : Az) 0 0 (Bf.mk false (Au.mk 0 0) (Ao.mk 0 0)) ([] : Az) 0 0) 3 (by first | assumption | exact Cv.nil : Cv ((Aq ((Aq ((Aq ((Ep 2).1) 3 (Ak.mk 1 ([97, 99, 109, 101] : Az) 0 0 (Bf.mk false (Au.mk 0 0) (Ao.mk 0 0)) ([107] : Az) 100 0) 0).1) 2 (Ak.mk 2 ([97, 99, 109, 101] : Az) 0 0 (Bf.mk false (Au.mk 0 0) (Ao.mk 0 0)) ([] : Az) 0 0) 1).1) 2 (Ak.mk 2 ([97, 99, 109, 101] : Az) 0 0 (Bf.mk false (Au.mk 0 0) (Ao.mk 0 0)) ([] : Az) 0 0) 2).1.l));refine St ?_;refine Aj Af gX (k := fun r5 qk => ?_);refine gY ?_;refine Jl ?_;refine Ev _ (sk (sa (sk (sx (sk (sk (sk sz))))))) ?_;refine pZ ?_;refine Hd (Ai call20) (fun w1 hw1 => J8 w1 (r := ((Aq ((Aq ((Aq ((Aq ((Ep 2).1) 3 (Ak.mk 1 ([97, 99, 109, 101] : Az) 0 0 (Bf.mk false (Au.mk 0 0) (Ao.mk 0 0)) ([107] : Az) 100 0) 0).1) 2 (Ak.mk 2 ([97, 99, 109, 101] : Az) 0 0 (Bf.mk false (Au.mk 0 0) (Ao.mk 0 0)) ([] : Az) 0 0) 1).1) 2 (Ak.mk 2 ([97, 99, 109, 101] : Az) 0 0 (Bf.mk false (Au.mk 0 0) (Ao.mk 0 0)) ([] : Az) 0 0) 2).1) 1 (Ak.mk 5 ([97, 99, 109, 101] : Az) 0 0 (Bf.mk false (Au.mk 0 0) (Ao.mk 0 0)) ([] : Az) 0 0) 3).1)) (name := ([97, 99, 109, 101] : Az)) (h_r_Sg := (Fl.slj uc) w1 hw1) (n_r_Sg := z7) (h_r_Su := (Fl.slj ud) w1 hw1) (n_r_Su := z7) (h_r_Sf := (Fl.slj ue) w1 hw1) (n_r_Sf := z7) (h_r_l := (Dh.j lh.1 sh).2 w1 hw1) (n_r_l := z7) (k_r_l := lh.2) (hsm := N6)) (k := ?_);rintro ya vq yc gb ⟨vd, vl, d50, d57, qn, d45, jz, nv, lc, c57, c32, c36⟩;refine ⟨_, _, jz, (gb.fresh nv).perm (eqp (nA rfl)), ?_⟩;refine St ?_;refine Aj Af z8 (k := fun r6 ql => ?_);refine gH ?_;refine Mp ?_;refine Ah (Ck isAgg44 sizeOf44) (k := ?_);refine Ah z69 (k := ?_);refine T9 ?_;refine Ah (nK (L9 _ _ _ _ _ _ _ _ _ _ _ _ _ _)) (k := ?_);refine Cr ?_;refine Ar 48 rfl (fun b9 => ?_) (fun b9 => ?_);rotate_left
 ·refine Ag 4 rfl ?_;refine jW ?_;refine jW ?_;refine Pz ?_;refine cI (k := ?_);refine jW ?_;refine qL ?_;refine Ok ?_;refine Ad results14 z1 (fun w1 hw1 => ?_);exact ⟨(rq ((hF.neg a9).neg b9)), hw1.ext_out⟩
 refine A6 ?_;refine A3 ?_;refine AG6 ?_;refine Sn ?_;refine Ar 54 rfl (fun c7 => ?_) (fun c7 => ?_);rotate_left
 ·refine Ag 3 rfl ?_;refine jW ?_;refine Pz ?_;refine cI (k := ?_);refine jW ?_;refine qL ?_;refine Ok ?_;refine Ad results14 z1 (fun w1 hw1 => ?_);exact ⟨(rq (((hF.neg a9).pos b9).neg c7)), hw1.ext_out⟩
 refine A6 ?_;refine AG6 ?_;refine Sn ?_;refine Ar 59 rfl (fun c8 => ?_) (fun c8 => ?_);rotate_left
 ·refine Ag 3 rfl ?_;refine Pz ?_;refine cI (k := ?_);refine jW ?_;refine qL ?_;refine Ok ?_;refine Ad results14 z1 (fun w1 hw1 => ?_);exact ⟨(rq ((((hF.neg a9).pos b9).pos c7).neg c8)), hw1.ext_out⟩
 refine A6 ?_;refine AG6 ?_;refine Sn ?_;refine Ar 64 rfl (fun d5 => ?_) (fun d5 => ?_);rotate_left
 ·refine cI (k := ?_);refine jW ?_;refine qL ?_;refine Ok ?_;refine Ad results14 z1 (fun w1 hw1 => ?_);exact ⟨(rq (((((hF.neg a9).pos b9).pos c7).pos c8).neg d5)), hw1.ext_out⟩
 refine Hw ?_;refine Sn ?_;refine Dq 67 rfl (fun d8 => ?_) (fun d8 => ?_);rotate_left
 ·refine Ag 3 rfl ?_;refine qL ?_;refine Ok ?_;refine Ad results14 z1 (fun w1 hw1 => ?_);exact ⟨(rq ((((((hF.neg a9).pos b9).pos c7).pos c8).pos d5).f d8)), hw1.ext_out⟩
 refine qA ?_;refine Ay Gy (k := ?_);refine Sn ?_;refine Ar 72 rfl (fun k6 => ?_) (fun k6 => ?_);rotate_left
 ·refine Ag 2 rfl ?_;refine Ok ?_;refine Ad results14 z1 (fun w1 hw1 => ?_);exact ⟨(rq (((((((hF.neg a9).pos b9).pos c7).pos c8).pos d5).t d8).neg k6)), hw1.ext_out⟩
 refine Ay z66 (k := ?_);refine Ku (Ai call23) (fun w1 hw1 => iV w1 (r := ((Aq ((Aq ((Aq ((Aq ((Ep 2).1) 3 (Ak.mk 1 ([97, 99, 109, 101] : Az) 0 0 (Bf.mk false (Au.mk 0 0) (Ao.mk 0 0)) ([107] : Az) 100 0) 0).1) 2 (Ak.mk 2 ([97, 99, 109, 101] : Az) 0 0 (Bf.mk false (Au.mk 0 0) (Ao.mk 0 0)) ([] : Az) 0 0) 1).1) 2 (Ak.mk 2 ([97, 99, 109, 101] : Az) 0 0 (Bf.mk false (Au.mk 0 0) (Ao.mk 0 0)) ([] : Az) 0 0) 2).1) 1 (Ak.mk 5 ([97, 99, 109, 101] : Az) 0 0 (Bf.mk false (Au.mk 0 0) (Ao.mk 0 0)) ([] : Az) 0 0) 3).1)) (h_r_Sg := (Fl.slj uc) w1 hw1) (n_r_Sg := z7) (h_r_Su := (Fl.slj ud) w1 hw1) (n_r_Su := z7) (h_r_Sf := (Fl.slj ue) w1 hw1) (n_r_Sf := z7) (h_r_l := (Dh.j lh.1 sh).2 w1 hw1) (n_r_l := z7) (k_r_l := lh.2) (hsm := N6)) (k := ?_);refine Kt ?_;refine Ad results14 z1 (fun w1 hw1 => ?_);exact ⟨(rq (((((((hF.neg a9).pos b9).pos c7).pos c8).pos d5).t d8).pos k6)), hw1.ext_out⟩

end Go.Proofs.YtopjaeoklkpcpaaGreatDoor.Jd

namespace Go.Proofs.YtopjaeoklkpcpaaGreatDoor.Jd
open Go.Proofs.Tryz
open Go.Proofs
set_option linter.unusedVariables false
set_option linter.unusedSimpArgs false
theorem Wn (r : Ab) (s : Az) : ∀ n i, Cc (Im r s n i) (fun r => r) (fun _ => (-1 : Int)) < r.l.length
  | 0, i => by show (-1 : Int) < _; omega
  | n + 1, i => by
    unfold Im;by_cases h : ((i : Nat) : Int) < ((r.l.length : Nat) : Int)
    · rw [if_pos h];by_cases h2 : (r.l.getD i default).name = s
      · rw [if_pos h2]; exact h
      · rw [if_neg h2]; exact Wn r s n (i + 1)
    · rw [if_neg h]; show (-1 : Int) < _; omega
theorem fM (r : Ab) (s : Az) : Bc r s < r.l.length := Wn r s _ 0
theorem Uk (r : Ab) (i : Nat) : ∀ n k, i < k + n → k ≤ i → (Cc (Hp r i n k) (fun r => r) (fun _ => true) = true ↔ ∀ j, k ≤ j → j < i → (r.l.getD j default).name ≠ (r.l.getD i default).name)
  | 0, k, h, h2 => by omega
  | n + 1, k, h, h2 => by
    unfold Hp;by_cases hk : ((k : Nat) : Int) < ((i : Nat) : Int)
    · rw [if_pos hk];by_cases e : (r.l.getD k default).name = (r.l.getD i default).name
      · rw [if_pos e];exact ⟨fun h => (by cases h), fun h => absurd e (h k (Nat.le_refl _) z4)⟩
      · rw [if_neg e, Uk r i n (k + 1) z4 z4];refine ⟨fun h j h3 h4 => ?_, fun h j h3 h4 => h j z4 h4⟩;by_cases hj : j = k
        · subst hj; exact e
        · exact h j z4 h4
    · rw [if_neg hk];exact ⟨fun _ j h3 h4 => by omega, fun _ => rfl⟩
def AY7 (r : Ab) (i : Nat) : Prop := ((r.l.getD i default).handle = (Jj r.slots).getD i default ∧ Oe (r.l.getD i default) r.seq = true) ∧ ∀ j, j < i → (r.l.getD j default).name ≠ (r.l.getD i default).name
theorem Ul (r : Ab) : ∀ n i, r.l.length < i + n → i ≤ r.l.length → (Cc (Jy r n i) (fun r => r) (fun _ => true) = true ↔ ∀ k, i ≤ k → k < r.l.length → AY7 r k)
  | 0, i, h, h2 => by omega
  | n + 1, i, h, h2 => by
    unfold Jy;by_cases hi : ((i : Nat) : Int) < ((r.l.length : Nat) : Int)
    · rw [if_pos hi];have hh : ((r.l.getD i default).handle.slot = ((Jj r.slots).getD i default).slot ∧ (r.l.getD i default).handle.gen = ((Jj r.slots).getD i default).gen) ↔ (r.l.getD i default).handle = (Jj r.slots).getD i default := by
        generalize (r.l.getD i default).handle = a;generalize (Jj r.slots).getD i default = b;cases a; cases b; simp
      by_cases e : (r.l.getD i default).handle.slot = ((Jj r.slots).getD i default).slot ∧ (r.l.getD i default).handle.gen = ((Jj r.slots).getD i default).gen
      · rw [if_neg (fun h => h e)];by_cases t : Oe (r.l.getD i default) r.seq = true
        · rw [if_neg (by rw [t]; simp)];have h1 := Uk r i (i + 1) 0 z4 z4;cases hx : Hp r i (i + 1) 0 with
          | error b =>
            rw [hx] at h1;have hb : b = false := by
              have : ∀ n k b, Hp r i n k = .error b → b = false := by
                intro n
                induction n with
                | zero => intro k b h; cases h
                | succ n ih =>
                  intro k b h;unfold Hp at h;split at h
                  · split at h
                    · cases h; rfl
                    · exact ih _ _ h
                  · cases h
              exact this _ _ _ hx
            subst hb;refine ⟨fun h => (by cases h), fun h => ?_⟩;exact absurd (h1.2 fun j _ h3 => (h i (Nat.le_refl _) z4).2 j h3) (by simp [Cc])
          | ok v =>
            rw [hx] at h1;have h2' := h1.1 rfl;show (Cc (Jy r n (i + 1)) (fun r => r) (fun _ => true) = true) ↔ _
            rw [Ul r n (i + 1) z4 z4];refine ⟨fun h k h3 h4 => ?_, fun h k h3 h4 => h k z4 h4⟩;by_cases hk : k = i
            · subst hk; exact ⟨⟨hh.1 e, t⟩, fun j hj => h2' j (Nat.zero_le _) hj⟩
            · exact h k z4 h4
        · rw [if_pos (by simpa using t)];exact ⟨fun h => (by cases h), fun h => absurd (h i (Nat.le_refl _) z4).1.2 t⟩
      · rw [if_pos e];exact ⟨fun h => (by cases h), fun h => absurd (hh.2 (h i (Nat.le_refl _) z4).1.1) e⟩
    · rw [if_neg hi];exact ⟨fun _ k h3 h4 => by omega, fun _ => rfl⟩
theorem Zs {l : List Aa} : (l.map Aa.name).Nodup ↔ ∀ k, k < l.length → ∀ j, j < k → (l.getD j default).name ≠ (l.getD k default).name := by
  constructor
  · intro h k hk j hj e;have := M3 h (i := j) (j := k) z4 hk e;omega
  · intro h;rw [List.Nodup, List.pairwise_iff_getElem];intro i j hi hj hij;have hi' : i < l.length := by simpa using hi
    have hj' : j < l.length := by simpa using hj
    have := h j hj' i hij;simpa [List.getD, hi', hj'] using this
theorem pF {r : Ab} : My r = true ↔ Fx r := by
  have hl0 := Ul r (r.l.length + 1) 0 z4 z4;unfold My;rw [← aV];have hal := AB7 r.slots;constructor
  · intro h;split at h
    · cases h
    rename_i h1
    split at h
    · cases h
    split at h
    · cases h
    split at h
    · cases h
    rename_i h2 h3 h4
    have g := hl0.1 h;refine ⟨by simpa using h1, ⟨by omega, by omega⟩, ?_, Zs.2 fun k hk j hj => (g k z4 hk).2 j hj, fun t ht => ?_⟩
    · rw [hal]; exact (Qr z4).1 fun k hk => (g k z4 hk).1.1
    · obtain ⟨k, hk, rfl⟩ := List.getElem_of_mem ht;have := Zn.1 (g k z4 hk).1.2;simpa [List.getD, hk] using this
  · rintro ⟨h1, h2, h3, h4, h5⟩;have hl : (Dz r.slots).length = r.l.length := by rw [← h3]; simp
    rw [h1, if_neg Gu, if_neg z4, if_neg z4, if_neg (by rw [← hal]; omega)];refine hl0.2 fun k _ hk => ⟨⟨?_, Zn.2 (h5 _ ?_)⟩, fun j hj => Zs.1 h4 k hk j hj⟩
    · rw [← hal]; exact (Qr hl).2 h3 k hk
    · rw [List.getD_eq_getElem?_getD, List.getElem?_eq_getElem hk]; exact List.getElem_mem hk
theorem Rr (r : Ab) : My r = Gj r := by
  rw [Bool.eq_iff_iff, pF, Oh]
theorem pG {r : Ab} (h : My r = true) : r.seq ≤ r.seq ∧ 0 ≤ r.seq ∧ r.seq ≤ 1000000000000 := by
  rw [Rr] at h;have := Zk h;omega
theorem Dh.off {α β : Type} [Inhabited α] [Inhabited β] {enc : α × β → List Value} {k : Nat} {D : World → α → β → Prop} {a : Option Addr} {xs : List α} {ts : List β} {B : An} (h : Dh B enc k D a xs ts) (lo c : Nat) (hc : xs.length ≤ c) : Dh B enc k D (Kl a k lo c) (xs.drop lo) (ts.drop lo) := ⟨by rw [List.length_drop, List.length_drop, h.1], fun w hw => (h.2 w hw).off lo c hc⟩
theorem sP {α β : Type} {a b : List α} {c d : List β} (h : c.length = a.length) (k : d.length = b.length) : (c ++ d).length = (a ++ b).length := by rw [List.length_append, List.length_append, h, k]
def gW (l : List Aa) (b : Int) : Prop := ∀ i, (l.getD i default).version ≤ b ∧ 0 ≤ (l.getD i default).version
theorem gW.of_right {r : Ab} (h : My r = true) : gW r.l 1000000000000 := fun i => by
  rw [Rr] at h;have h2 := Zk h;by_cases hi : i < r.l.length
  · have := Rm h hi; omega
  · rw [List.getD_eq_getElem?_getD, List.getElem?_eq_none z4]; exact ⟨by show (0 : Int) ≤ _; omega, by show (0 : Int) ≤ 0; omega⟩
theorem yS {r : Ab} (h : My r = true) : ((0 ≤ r.seq ∧ r.seq ≤ 1000000000000)) ∧ gW r.l 1000000000000 := ⟨(pG h).2, gW.of_right h⟩
theorem gW.mono {l : List Aa} {a b : Int} (h : gW l a) (hab : a ≤ b) : gW l b := fun i => by have := h i; omega
theorem gW.put {l : List Aa} {a : Int} (h : gW l a) (i : Nat) (x : Aa) (hi : i < l.length) (hx : x.version = (l.getD i default).version + 1) (k : Nat) (hk : k = i + 1) : gW ((l.take i ++ [x]) ++ l.drop k) (a + 1) := fun j => by
  subst hk;have hi2 := h i;rw [List.getD_eq_getElem?_getD, List.append_assoc];by_cases h1 : j < i
  · rw [List.getElem?_append_left (by rw [List.length_take]; omega), List.getElem?_take_of_lt h1, ← List.getD_eq_getElem?_getD];have := h j; omega
  · by_cases h2 : j = i
    · subst h2;rw [List.getElem?_append_right (by rw [List.length_take]; omega), List.length_take, show j - min j l.length = 0 by omega];show x.version ≤ _ ∧ 0 ≤ x.version
      omega
    · rw [List.getElem?_append_right (by rw [List.length_take]; omega), List.length_take, show j - min i l.length = (j - i - 1) + 1 by omega];have e1 : ([x] ++ l.drop (i + 1))[j - i - 1 + 1]? = l[j]? := by
        rw [List.singleton_append, List.getElem?_cons_succ, List.getElem?_drop, show i + 1 + (j - i - 1) = j by omega]
      rw [e1, ← List.getD_eq_getElem?_getD];have := h j; omega
end Go.Proofs.YtopjaeoklkpcpaaGreatDoor.Jd

namespace Go.Proofs.YtopjaeoklkpcpaaGreatDoor.Jd
open Go.Proofs.Tryz
set_option maxRecDepth 100000
set_option linter.unusedVariables false
set_option linter.unusedSimpArgs false
theorem sQ (a b : List Bf) : eD a b = true ↔ a = b := by
  unfold eD;by_cases hl : a.length = b.length
  · rw [if_neg z4];rcases SlT.cmp_spec (a) (b) (Ke a b) (fun n k h => by simp only [Ke]; rw [if_neg z4]) (fun n k h e => by simp only [Ke]; rw [if_pos z4, if_neg (by rw [e]; simp)]) (fun n k h e => by simp only [Ke]; rw [if_pos z4, if_pos (fun c => e (by generalize a.getD k default = x at c ⊢; generalize b.getD k default = y at c ⊢; rcases x with ⟨x1, ⟨x2, x3⟩, ⟨x4, x5⟩⟩; rcases y with ⟨y1, ⟨y2, y3⟩, ⟨y4, y5⟩⟩; simp only at c; simp [c]))]) hl (a.length + 1) 0 z4 z4 with ⟨e, g⟩ | ⟨e, g⟩
    · simp only [e, Cc, true_iff]; exact SlT.getD_ext hl fun j hj => g j z4 hj
    · simp only [e, Cc, Bool.false_eq_true, false_iff]; exact g
  · rw [if_pos z4];simp only [Bool.false_eq_true, false_iff]; exact fun e => hl (by rw [e])
theorem sR (a b : List Bs) : eE a b = true ↔ a = b := by
  unfold eE;by_cases hl : a.length = b.length
  · rw [if_neg z4];rcases SlT.cmp_spec (a) (b) (Kg a b) (fun n k h => by simp only [Kg]; rw [if_neg z4]) (fun n k h e => by simp only [Kg]; rw [if_pos z4, if_neg (by rw [e]; simp)]) (fun n k h e => by simp only [Kg]; rw [if_pos z4, if_pos (fun c => e (by generalize a.getD k default = x at c ⊢; generalize b.getD k default = y at c ⊢; cases x; cases y; simp only at c; simp [c]))]) hl (a.length + 1) 0 z4 z4 with ⟨e, g⟩ | ⟨e, g⟩
    · simp only [e, Cc, true_iff]; exact SlT.getD_ext hl fun j hj => g j z4 hj
    · simp only [e, Cc, Bool.false_eq_true, false_iff]; exact g
  · rw [if_pos z4];simp only [Bool.false_eq_true, false_iff]; exact fun e => hl (by rw [e])
theorem bP (a b : Aa) : Vd a b = true ↔ a = b := by
  have e : Vd a b = true ↔ (a.handle.slot = b.handle.slot ∧ a.handle.gen = b.handle.gen) ∧ a.name = b.name ∧ a.state = b.state ∧ a.version = b.version ∧ a.deadline = b.deadline ∧ a.rules = b.rules ∧ a.creds = b.creds := by
    unfold Vd;rw [← sQ, ← sR]
    repeat' split
    all_goals simp_all
  rw [e];constructor
  · rcases a with ⟨⟨a1, a2⟩, a3, a4, a5, a6, a7, a8⟩; rcases b with ⟨⟨b1, b2⟩, b3, b4, b5, b6, b7, b8⟩
    rintro ⟨⟨h1, h2⟩, h3, h4, h5, h6, h7, h8⟩;simp only at h1 h2 h3 h4 h5 h6 h7 h8;rw [h1, h2, h3, h4, h5, h6, h7, h8]
  · rintro rfl; simp
theorem sS (a b : Ab) : fA a b = true ↔ a = b := by
  have key : (a.slots = b.slots ∧ a.seq = b.seq ∧ a.l = b.l) ↔ a = b := by
    constructor
    · cases a; cases b; rintro ⟨h1, h2, h3⟩; simp only at h1 h2 h3; rw [h1, h2, h3]
    · rintro rfl; exact ⟨rfl, rfl, rfl⟩
  rw [← key];unfold fA;by_cases h1 : a.slots = b.slots;rotate_left
  · have h1' : Xm a.slots b.slots = false := Bool.eq_false_iff.2 fun h => h1 ((fG _ _).1 h)
    simp [h1, h1']
  rw [(fG _ _).2 h1];by_cases h2 : a.seq = b.seq;rotate_left
  · simp [h2]
  by_cases hl : a.l.length = b.l.length;rotate_left
  · have h3 : ((a.l.length : Nat) : Int) ≠ ((b.l.length : Nat) : Int) := by omega
    simp only [h1, h2, h3, true_and, if_true, ne_eq, not_true_eq_false, not_false_eq_true, if_false, Bool.not_true, Bool.false_eq_true, false_iff];exact fun e => hl (by rw [e])
  have h3 : ((a.l.length : Nat) : Int) = ((b.l.length : Nat) : Int) := by omega
  simp only [h1, h2, h3, true_and, if_true, ne_eq, not_true_eq_false, not_false_eq_true, if_false, Bool.not_true, Bool.false_eq_true];rcases SlT.cmp_spec (a.l) (b.l) (Ki a b) (fun n k h => by simp only [Ki]; rw [if_neg z4]) (fun n k h e => by simp only [Ki]; rw [if_pos z4, if_neg (by rw [(bP _ _).2 e]; simp)]) (fun n k h e => by simp only [Ki]; rw [if_pos z4, if_pos (by simpa using fun c => e ((bP _ _).1 c))]) hl (a.l.length + 1) 0 z4 z4 with ⟨e, g⟩ | ⟨e, g⟩
  · simp only [e, Cc, true_iff]; exact SlT.getD_ext hl fun j hj => g j z4 hj
  · simp only [e, Cc, Bool.false_eq_true, false_iff]; exact g
theorem pH : fB = true := by kernel_rfl
end Go.Proofs.YtopjaeoklkpcpaaGreatDoor.Jd

namespace Go.Proofs.YtopjaeoklkpcpaaGreatDoor.Jd
open Go.Proofs.Tryz
set_option maxRecDepth 100000
set_option linter.unusedVariables false
set_option linter.unusedSimpArgs false
theorem Wo (r : Ab) (s : Az) : ∀ n i, Cc (Im r s n i) (fun r => r) (fun _ => (-1 : Int)) = if (Cc (Ea r s n i) (fun r => r) (fun _ => ((0 : Int), false))).2 = true then (Cc (Ea r s n i) (fun r => r) (fun _ => ((0 : Int), false))).1 else -1
  | 0, i => rfl
  | n + 1, i => by
    unfold Im Ea;by_cases h : ((i : Nat) : Int) < ((r.l.length : Nat) : Int)
    · rw [if_pos h, if_pos h];by_cases h2 : (r.l.getD i default).name = s
      · rw [if_pos h2, if_pos h2]; rfl
      · rw [if_neg h2, if_neg h2]; exact Wo r s n (i + 1)
    · rw [if_neg h, if_neg h]; rfl
theorem sU (r : Ab) (s : Az) : Bc r s = if (Ap r s).2 = true then (Ap r s).1 else -1 := Wo r s _ 0
end Go.Proofs.YtopjaeoklkpcpaaGreatDoor.Jd

namespace Go.Proofs.YtopjaeoklkpcpaaGreatDoor.Jd
open Go.Proofs.Tryz
set_option maxRecDepth 100000
set_option linter.unusedVariables false
set_option linter.unusedSimpArgs false
def Mi (x : Ab × Cs) : Int × Int × Int × Int × Int × Int × List Int × List Bool × List Int × List Aa × Int := (x.2.err, x.2.seq, x.2.handle.slot, x.2.handle.gen, x.2.version, x.2.state, x.1.slots.gens, x.1.slots.used, x.1.slots.free, x.1.l, x.1.seq)
theorem jL (l : List Aa) (x : Aa) (k : Int) (hk : x.handle.slot = k) (hne : ∀ u ∈ l, u.handle.slot ≠ k) (L : Nat → Nat → Nat) (hL : ∀ n i, L (n + 1) i = if ((i : Nat) : Int) < ((l.length : Nat) : Int) then (if (l.getD i default).handle.slot < k then L n (i + 1) else i) else i) : ∀ n i, l.length < i + n → i ≤ l.length → (l.take (L n i) ++ [x]) ++ l.drop (L n i) = l.take i ++ Ge (l.drop i) x
  | 0, i, h1, h2 => by omega
  | n + 1, i, h1, h2 => by
    rw [hL];by_cases hi : i < l.length;rotate_left
    · rw [if_neg z4, List.drop_eq_nil_of_le z4];simp [Ge]
    rw [if_pos z4];have hd := Gw hi;have hu := hne _ (Li hi);by_cases hs : (l.getD i default).handle.slot < k
    · rw [if_pos hs, jL l x k hk hne L hL n (i + 1) z4 z4, hd, SlT.take_succ' hi];show _ = _ ++ (if _ then _ else _)
      rw [if_pos z4];simp
    · rw [if_neg hs, hd];show _ = _ ++ (if _ then _ else _)
      rw [if_neg z4, if_neg z4];simp
theorem yT {l : List Aa} {i : Nat} (hi : i < l.length) (u : Aa) : l.set i u = (l.take i ++ [u]) ++ l.drop (((i : Nat) : Int) + 1).toNat := by
  rw [show (((i : Nat) : Int) + 1).toNat = i + 1 by omega, List.set_eq_take_append_cons_drop, if_pos hi];simp
theorem uP (r : Ab) (role : Int) (c : Ak) (now : Int) : Is.xr11 (Is.refl (Gf r role c now)) = Mi (Aq (Ac r) role (Ae c) now) := by
  unfold Is.xr11;have hat := fun x hk hne => jL (Ac r).l x (Df (Ac r).slots).2.1.slot hk hne (Fe r role c now) (fun n i => rfl) ((Ac r).l.length + 1) 0 z4 z4
  generalize Fe r role c now = L at hat ⊢;generalize Ac r = s at hat ⊢;generalize Ae c = d;by_cases hf : zD s now;rotate_left
  · rw [fK fun h => hf (lM.2 h), Rr];cases hr : Gj s with
    | false => rfl
    | true =>
      rw [if_neg Gu];by_cases h2 : 1000000000000 ≤ s.seq
      · rw [if_pos h2]; rfl
      rw [if_neg h2];by_cases h3 : now < 0
      · rw [if_pos h3]; rfl
      rw [if_neg h3];by_cases h4 : 1000000000000 < now
      · rw [if_pos h4]; rfl
      exact absurd (lM.2 ⟨hr, by omega, by omega, by omega⟩) hf
  have hf' := lM.1 hf;rw [Rr, hf'.1, if_neg Gu, if_neg z4, if_neg z4, if_neg z4, ← K8];cases hm : Mm role d.verb with
  | false => rw [fL hf' hm]; rfl
  | true =>
    have hv := Zj hm;rw [jK hf' hm, if_neg Gu];unfold doD;have hpl : Bc (Ab.mk s.slots s.l (s.seq + 1)) d.name = if (Ap s d.name).2 = true then (Ap s d.name).1 else -1 := by
      rw [sU, show Ap (Ab.mk s.slots s.l (s.seq + 1)) d.name = Ap s d.name from Qt s d.name]
    rw [jI];simp only [← pA, ← pB, M4, ← lI, ← lJ] at hat ⊢;by_cases v1 : d.verb = 1
    · rw [if_pos v1, if_pos v1];by_cases hn : Ho d.name = true;rotate_left
      · rw [if_pos (by simpa using hn), if_neg hn]; rfl
      rw [if_neg (by simp [hn]), if_pos hn];rcases bO s d.name with ⟨i, h1, h2, h3⟩ | ⟨h1, h2⟩
      · rw [h2, if_pos rfl] at hpl;rw [hpl, if_pos z4, h2, if_pos rfl]; rfl
      rw [h1, if_neg Gu] at hpl;rw [hpl, if_neg z4, h1, if_neg (show ¬ (((0 : Int), false) : Int × Bool).2 = true from Bool.false_ne_true)];by_cases e1 : (Cl s.slots).2.2 = 0;rotate_left
      · rw [if_pos e1, if_pos e1];simp only [Hf];rw [if_pos e1]; rfl
      have n1 : ¬ (Cl s.slots).2.2 ≠ 0 := fun h => h e1
      rw [if_neg n1, if_neg n1];by_cases e2 : (Em [] d.key now 0 d.n).2.2 = 0;rotate_left
      · rw [if_pos e2, if_pos e2];simp only [Hf];rw [if_pos e2]; rfl
      have n2 : ¬ (Em [] d.key now 0 d.n).2.2 ≠ 0 := fun h => h e2
      rw [if_neg n2, if_neg n2];have k := lL e1;have e := hat (sM s d now) rfl (fun u hu => k.slot _ (hf.right.handle hu));rw [List.take_zero, List.nil_append, List.drop_zero] at e;rw [← e]; rfl
    rw [if_neg v1, if_neg v1];by_cases v9 : d.verb = 9
    · rw [if_pos v9, if_pos v9]; rfl
    rw [if_neg v9, if_neg v9];rcases bO s d.name with ⟨i, h1, h2, h3⟩ | ⟨h1, h2⟩
    rotate_left
    · rw [h1, if_neg Gu] at hpl;rw [hpl, if_pos z4, h1, if_neg (show ¬ (((0 : Int), false) : Int × Bool).2 = true from Bool.false_ne_true)]; rfl
    have hp2 : (Ap s d.name).2 = true := by rw [h2]
    have hp1 : (Ap s d.name).1 = (i : Int) := by rw [h2]
    rw [if_pos hp2] at hpl;rw [hpl, if_pos hp2, hp1, if_neg z4];rw [show ((i : Nat) : Int).toNat = i from rfl];simp only [Iz];have hT := hf.right.ok _ (Li h1);have hP : (Wm (s.l.getD i default) d now).2 = 0 → Ge s.l (Wm (s.l.getD i default) d now).1 = (s.l.take i ++ [(Wm (s.l.getD i default) d now).1]) ++ s.l.drop (((i : Nat) : Int) + 1).toNat := fun h0 => by
      have hk := M8 (s.l.getD i default) d now;rw [(hf.right.put hf.lt h1 hk.2.1 hk.1 (AN9 hf.nn hT hf.right.seq.1 h0)).1, yT h1]
    generalize s.l.getD i default = t at hT hP ⊢;by_cases w : d.want ≠ 0 ∧ d.want ≠ t.version
    · rw [if_pos w, if_pos (by rw [if_pos w.1]; simpa using w.2)]; rfl
    rw [if_neg w, if_neg (by
      by_cases w1 : d.want = 0
      · rw [if_neg (by simp [w1])]; simp
      · rw [if_pos w1]; simp; exact Classical.byContradiction fun w2 => w ⟨w1, w2⟩)]
    have hdl : t.state ≠ 3 → t.deadline = 0 := fun h => hT.drains.resolve_right h
    unfold cZ;obtain hv | hv | hv | hv | hv | hv | hv | hv : d.verb = 2 ∨ d.verb = 3 ∨ d.verb = 4 ∨ d.verb = 5 ∨ d.verb = 6 ∨ d.verb = 7 ∨ d.verb = 8 ∨ d.verb = 10 := by omega
    · have hc : Wm t d now = (Aa.mk t.handle t.name 2 (t.version + 1) t.rules t.creds 0, if t.state = 2 then 156 else 0) := by unfold Wm; rw [if_pos hv]
      rw [hc] at hP ⊢;by_cases s2 : t.state = 2
      · simp [hv, s2, Lv, Hf, Mi, Hs]
      · have hP := hP (by simp [s2]);simp [hv, s2, Lv, Hf, Mi, hP]
    · have hc : Wm t d now = (Aa.mk t.handle t.name 1 (t.version + 1) t.rules t.creds 0, if t.state = 2 then 0 else 156) := by unfold Wm; simp [hv]
      rw [hc] at hP ⊢;by_cases s2 : t.state = 2
      · have hP := hP (by simp [s2]);simp [hv, s2, Lv, Hf, Mi, hP]
      · simp [hv, s2, Lv, Hf, Mi, Hs]
    · have hc : Wm t d now = (Aa.mk t.handle t.name 3 (t.version + 1) t.rules t.creds (now + d.n), if t.state = 1 then (if d.n < 1 ∨ 1000000000 < d.n ∨ 1000000000000 < now + d.n then 2 else 0) else 156) := by unfold Wm; simp [hv]
      rw [hc] at hP ⊢;by_cases s2 : t.state = 1;rotate_left
      · simp [hv, s2, Lv, Hf, Mi, Hs]
      by_cases n1 : d.n < 1
      · simp [hv, s2, n1, Lv, Hf, Mi, Hs]
      by_cases n2 : 1000000000 < d.n
      · simp [hv, s2, n1, n2, Lv, Hf, Mi, Hs]
      by_cases n3 : 1000000000000 < now + d.n
      · simp [hv, s2, n1, n2, n3, Lv, Hf, Mi, Hs]
      have hP := hP (by simp [s2, n1, n2, n3]);have hw : IntKind.i64.wrap (now + d.n) = now + d.n := Ta ⟨by have := hf.nn; omega, by have := hf.nn; omega⟩;simp [hv, s2, n1, n2, n3, Lv, Hf, Mi, hP, hw]
    · by_cases s3 : t.state = 3
      · simp [hv, s3, Lv, Hf, Mi, delL]
      · simp [hv, s3, Lv, Hf, Mi, delL]
    · have hc : Wm t d now = (Aa.mk t.handle t.name t.state (t.version + 1) t.rules (Em t.creds d.key now d.n d.m).1 t.deadline, (Em t.creds d.key now d.n d.m).2.2) := by unfold Wm; simp [hv]
      rw [hc] at hP ⊢;by_cases e0 : (Em t.creds d.key now d.n d.m).2.2 = 0
      · have hP := hP e0;by_cases s3 : t.state = 3
        · simp [hv, e0, s3, Lv, Hf, Mi, hP] <;> simp_all
        · simp [hv, e0, s3, Lv, Hf, Mi, hP, hdl s3] <;> simp_all
      · by_cases s3 : t.state = 3 <;> simp [hv, e0, s3, Lv, Hf, Mi, Hs]
    · by_cases a0 : 0 ≤ d.at_
      · have hc : Wm t d now = (Aa.mk t.handle t.name t.state (t.version + 1) (Cg t.rules d.at_ d.rule).1 t.creds t.deadline, (Cg t.rules d.at_ d.rule).2) := by unfold Wm; simp [hv, a0]
        rw [hc] at hP ⊢;by_cases e0 : (Cg t.rules d.at_ d.rule).2 = 0
        · have hP := hP e0;by_cases s3 : t.state = 3
          · simp [hv, a0, e0, s3, Lv, Hf, Mi, hP] <;> simp_all
          · simp [hv, a0, e0, s3, Lv, Hf, Mi, hP, hdl s3] <;> simp_all
        · by_cases s3 : t.state = 3 <;> simp [hv, a0, e0, s3, Lv, Hf, Mi, Hs]
      · have hc : Wm t d now = (Aa.mk t.handle t.name t.state (t.version + 1) (Ci t.rules (IntKind.wrap .i64 (0 - (d.at_ + 1)))).1 t.creds t.deadline, (Ci t.rules (IntKind.wrap .i64 (0 - (d.at_ + 1)))).2) := by unfold Wm; simp [hv, a0]
        rw [hc] at hP ⊢;generalize IntKind.wrap .i64 (0 - (d.at_ + 1)) = z at hP ⊢;by_cases e0 : (Ci t.rules z).2 = 0
        · have hP := hP e0;by_cases s3 : t.state = 3
          · simp [hv, a0, e0, s3, Lv, Hf, Mi, hP] <;> simp_all
          · simp [hv, a0, e0, s3, Lv, Hf, Mi, hP, hdl s3] <;> simp_all
        · by_cases s3 : t.state = 3 <;> simp [hv, a0, e0, s3, Lv, Hf, Mi, Hs]
    · by_cases s3 : t.state = 3 <;> simp [hv, s3, Lv, Hf, Mi, xR]
    · by_cases s3 : t.state = 3 <;> simp [hv, s3, Lv, Hf, Mi, xR]
theorem Sj (r : Ab) (role : Int) (c : Ak) (now : Int) : Gf r role c now = true := by
  have h := uP r role c now;unfold Gf;refine Eq.trans (congrArg (fun x => nM x _) h) ?_;simp only [nM, Mi];rw [if_pos pH, if_pos ((sS _ _).2 rfl)];simp
end Go.Proofs.YtopjaeoklkpcpaaGreatDoor.Jd

