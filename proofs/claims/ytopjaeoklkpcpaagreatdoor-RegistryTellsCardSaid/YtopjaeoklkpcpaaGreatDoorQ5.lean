/- Part of the proofs of this seat: walks and plain facts. No condition. -/
import Derived.Test.YtopjaeoklkpcpaaGreatDoorQ0
import Derived.Test.YtopjaeoklkpcpaaGreatDoorProg
import Derived.Test.YtopjaeoklkpcpaaGreatDoorQ4
import Derived.Test.YtopjaeoklkpcpaaGreatDoorQ1
import Derived.Test.YtopjaeoklkpcpaaGreatDoorQ2
import Derived.Test.YtopjaeoklkpcpaaGreatDoorQ3
namespace Go.Proofs.YtopjaeoklkpcpaaGreatDoor.Jd
open Go.Proofs.Tryz
set_option linter.unusedVariables false
set_option linter.unusedSimpArgs false
def Up (l : List Ar) : Prop := l.Pairwise fun a b => a.slot < b.slot
theorem Up.ext : ∀ {a b : List Ar}, Up a → Up b → (∀ h, h ∈ a ↔ h ∈ b) → a = b
  | [], [], _, _, _ => rfl
  | [], y :: ys, _, _, h => absurd ((h y).2 List.mem_cons_self) Hb
  | x :: xs, [], _, _, h => absurd ((h x).1 List.mem_cons_self) Hb
  | x :: xs, y :: ys, ha, hb, h => by
    obtain ⟨a1, a2⟩ := List.pairwise_cons.1 ha
    obtain ⟨b1, b2⟩ := List.pairwise_cons.1 hb
    have e : x = y := by
      rcases List.mem_cons.1 ((h x).1 List.mem_cons_self) with e | h1
      · exact e
      rcases List.mem_cons.1 ((h y).2 List.mem_cons_self) with e | h2
      · exact e.symm
      have := b1 x h1
      have := a1 y h2
      omega
    subst e
    refine congrArg _ (Up.ext a2 b2 fun z => ⟨fun hz => ?_, fun hz => ?_⟩)
    · rcases List.mem_cons.1 ((h z).1 (List.mem_cons_of_mem _ hz)) with e | h3
      · subst e; have := a1 z hz; omega
      · exact h3
    · rcases List.mem_cons.1 ((h z).2 (List.mem_cons_of_mem _ hz)) with e | h3
      · subst e; have := b1 z hz; omega
      · exact h3
theorem Up.nodup {l : List Ar} (h : Up l) : l.Nodup := h.imp fun h e => by subst e; omega
theorem Up.inj {l : List Ar} (h : Up l) {x y : Ar} (hx : x ∈ l) (hy : y ∈ l) (e : x.slot = y.slot) : x = y := by
  induction l with
  | nil => cases hx
  | cons z w ih =>
    obtain ⟨a1, a2⟩ := List.pairwise_cons.1 h
    rcases List.mem_cons.1 hx with hx | hx
    · rcases List.mem_cons.1 hy with hy | hy
      · rw [hx, hy]
      · have := a1 y hy; subst hx; omega
    · rcases List.mem_cons.1 hy with hy | hy
      · have := a1 x hx; subst hy; omega
      · exact ih a2 hx hy
theorem Yu {s : Ax} (h : Ep s = true) {x : Ar} : x ∈ Dx s ↔ 0 ≤ x.slot ∧ s.used[x.slot.toNat]? = some true ∧ s.gens.getD x.slot.toNat default = x.gen := by
  rw [← Np, Oq]
  exact SlT.allD_mem (by rw [← Jo]; exact h)
theorem I4 {s : Ax} (h : Ep s = false) : Dx s = [] := fB (by rw [Oq, SlT.all_no (by rw [← Jo]; exact h)]; rfl)
theorem Un (s : Ax) : Up (Dx s) := by
  have e : Up (Dx s) ↔ ((Dx s).map hT).Pairwise fun a b => a.1 < b.1 := by rw [List.pairwise_map]; exact Iff.rfl
  rw [e, Oq]
  unfold SlT.allD
  split
  · unfold SlT.hnd
    rw [List.pairwise_map]
    refine (SlT.usedIx_sorted s.used 0).imp fun h => ?_
    simp only; omega
  · exact List.Pairwise.nil
/-- What a slot that is taken is. -/
structure AV0 (s s' : Ax) (h : Ar) : Prop where
  was : Ep s = true
  right : Ep s' = true
  slot : ∀ x ∈ Dx s, x.slot ≠ h.slot
  all : ∀ x, x ∈ Dx s' ↔ x ∈ Dx s ∨ x = h
  dead : ∀ p q : Int, SlT.Dead p q s.gens s.used → SlT.Dead p q s'.gens s'.used ∧ ¬ (h.slot = p ∧ h.gen = q)
theorem sW {s : Ax} (e : (Ch s).2.2 = 0) : AV0 s (Ch s).1 (Ch s).2.1 := by
  have e0 := qP s
  rw [← I2, SlT.rTake_eq] at e0
  have e1 : sT (Ch s).1 = (SlT.takeD s.gens s.used s.free).1 := congrArg Prod.fst e0
  have e2 : hT (Ch s).2.1 = (SlT.takeD s.gens s.used s.free).2.1 := congrArg (fun x => x.2.1) e0
  have e3 : (Ch s).2.2 = (SlT.takeD s.gens s.used s.free).2.2 := congrArg (fun x => x.2.2) e0
  rcases SlT.take_cases s.gens s.used s.free with ⟨_, h⟩ | ⟨_, h⟩ | ⟨i, h⟩
  · rw [e3, h] at e; simp at e
  · rw [e3, h] at e; simp at e
  rw [h.eq] at e1 e2
  generalize (Ch s).1 = s' at *
  generalize (Ch s).2.1 = hd at *
  have hs' : s' = ⟨s.gens.set i (s.gens.getD i default + 1), s.used.set i true, s.free.take (s.free.length - 1)⟩ := kU e1
  have hh : hd = ⟨(i : Int), s.gens.getD i default + 1⟩ := Zy e2
  have r1 : Ep s = true := by rw [Jo]; exact h.right
  have r2 : Ep s' = true := by rw [Jo, hs']; exact SlT.take_right h
  refine ⟨r1, r2, fun x hx he => ?_, fun x => ?_, fun p q hd => ?_⟩
  · have h1 := ((Yu r1).1 hx).2.1
    rw [he, hh] at h1
    simp only [Int.toNat_natCast] at h1
    rw [h.free] at h1; cases h1
  · rw [← Np, ← Np, Oq, Oq, hs', hh]
    by_cases hx : x.slot = (i : Int) ∧ x.gen = s.gens.getD i default + 1
    · have ex : x = ⟨(i : Int), s.gens.getD i default + 1⟩ := Zy (by simp [hT, hx.1, hx.2])
      refine ⟨fun _ => .inr ex, fun _ => ?_⟩
      rw [ex]; exact SlT.take_has h
    · refine (SlT.take_others h (p := x.slot) (q := x.gen) hx).symm.trans ⟨.inl, fun h2 => h2.resolve_right fun ex => hx (by rw [ex]; exact ⟨rfl, rfl⟩)⟩
  · rw [hs', hh]; exact SlT.dead_take h hd
/-- What a slot that is given back is. -/
structure AV1 (s s' : Ax) (h : Ar) : Prop where
  was : Ep s = true
  right : Ep s' = true
  all : ∀ x, x ∈ Dx s' ↔ x ∈ Dx s ∧ x ≠ h
  dead : SlT.Dead h.slot h.gen s'.gens s'.used
theorem sX {s : Ax} {h : Ar} (hm : h ∈ Dx s) : (Ft s h).2 = 0 ∧ AV1 s (Ft s h).1 h := by
  have r1 : Ep s = true := by
    cases hr : Ep s with
    | true => rfl
    | false => rw [I4 hr] at hm; cases hm
  have rb : SlT.rightB s.gens s.used s.free = true := by rw [← Jo]; exact r1
  have hm2 : (h.slot, h.gen) ∈ SlT.allD s.gens s.used s.free := by rw [← Oq]; exact Np.2 hm
  have e0 := qQ s h
  rw [← I3, SlT.rGive_eq] at e0
  have e1 : sT (Ft s h).1 = (SlT.giveD s.gens s.used s.free h.slot h.gen).1 := congrArg Prod.fst e0
  have e2 : (Ft s h).2 = (SlT.giveD s.gens s.used s.free h.slot h.gen).2 := congrArg Prod.snd e0
  rw [SlT.give_yes rb hm2] at e1 e2
  refine ⟨e2, ?_⟩
  generalize (Ft s h).1 = s' at *
  have hs' : s' = ⟨s.gens, s.used.set h.slot.toNat false, s.free ++ [h.slot]⟩ := kU e1
  have r2 : Ep s' = true := by rw [Jo, hs']; exact SlT.give_right rb hm2
  refine ⟨r1, r2, fun x => ?_, by rw [hs']; exact SlT.dead_given rb hm2⟩
  obtain ⟨h1, h2, h3⟩ := (Yu r1).1 hm
  have hl := (List.getElem?_eq_some_iff.1 h2).1
  rw [Yu r2, Yu r1, hs']
  simp only
  by_cases hx : x.slot.toNat = h.slot.toNat
  · rw [hx, List.getElem?_set_self hl]
    constructor
    · rintro ⟨_, h5, _⟩; cases h5
    · rintro ⟨⟨h4, h5, h6⟩, h7⟩
      refine absurd (Zy ?_) h7
      simp only [hT, Prod.mk.injEq]
      exact ⟨by omega, by rw [← h6, ← h3]⟩
  · rw [List.getElem?_set_ne (fun e => hx e.symm)]
    exact ⟨fun h4 => ⟨h4, fun e => hx (by rw [e])⟩, fun h4 => h4.1⟩
def bO : List Ar → Ar → List Ar
  | [], x => [x]
  | t :: r, x => if t.slot < x.slot then t :: bO r x else if t.slot = x.slot then x :: r else x :: t :: r
theorem Yv (x : Aa) : ∀ l : List Aa, (Fp l x).map Aa.handle = bO (l.map Aa.handle) x.handle
  | [] => rfl
  | t :: r => by
    simp only [Fp, bO, List.map_cons]
    split
    · rw [List.map_cons, Yv x r]
    · split <;> rfl
theorem iX {x : Aa} : ∀ {l : List Aa}, (∀ t ∈ l, t.handle.slot ≠ x.handle.slot) → (Fp l x).Perm (x :: l)
  | [], _ => List.Perm.refl _
  | t :: r, h => by
    unfold Fp
    split
    · exact ((iX fun u hu => h u (List.mem_cons_of_mem _ hu)).cons t).trans (List.Perm.swap x t r)
    · rw [if_neg (h t List.mem_cons_self)]
theorem nZ {x : Ar} : ∀ {l : List Ar}, (∀ t ∈ l, t.slot ≠ x.slot) → ∀ y, y ∈ bO l x ↔ y ∈ l ∨ y = x
  | [], _, y => by simp [bO]
  | t :: r, h, y => by
    unfold bO
    split
    · rw [List.mem_cons, nZ (fun u hu => h u (List.mem_cons_of_mem _ hu)), List.mem_cons, or_assoc]
    · rw [if_neg (h t List.mem_cons_self), List.mem_cons]; exact or_comm
theorem Up.put {x : Ar} : ∀ {l : List Ar}, Up l → Up (bO l x)
  | [], _ => List.pairwise_singleton _ _
  | t :: r, h => by
    obtain ⟨a1, a2⟩ := List.pairwise_cons.1 h
    unfold bO
    split
    · rename_i h1
      refine List.pairwise_cons.2 ⟨fun y hy => ?_, Up.put a2⟩
      have key : ∀ {l : List Ar}, y ∈ bO l x → y ∈ l ∨ y = x := by
        intro l
        induction l with
        | nil => intro h; exact .inr (by simpa [bO] using h)
        | cons z w ih =>
          unfold bO
          split
          · intro h; rcases List.mem_cons.1 h with rfl | h
            · exact .inl List.mem_cons_self
            · exact (ih h).imp (List.mem_cons_of_mem _) id
          · split
            · intro h; rcases List.mem_cons.1 h with rfl | h
              · exact .inr rfl
              · exact .inl (List.mem_cons_of_mem _ h)
            · intro h; rcases List.mem_cons.1 h with rfl | h
              · exact .inr rfl
              · exact .inl h
      rcases key hy with hy | rfl
      · exact a1 y hy
      · exact h1
    · split
      · rename_i h1 h2
        exact List.pairwise_cons.2 ⟨fun y hy => by have := a1 y hy; omega, a2⟩
      · rename_i h1 h2
        exact List.pairwise_cons.2 ⟨fun y hy => by
          rcases List.mem_cons.1 hy with rfl | hy
          · omega
          · have := a1 y hy; omega, h⟩
theorem oA {x : Aa} : ∀ {l : List Aa} {i : Nat}, Up (l.map Aa.handle) → i < l.length → (l.getD i default).handle.slot = x.handle.slot → Fp l x = l.set i x
  | [], i, _, hi, _ => by simp at hi
  | t :: r, 0, _, _, he => by
    have he' : t.handle.slot = x.handle.slot := by simpa using he
    unfold Fp
    rw [if_neg z2, if_pos he']; rfl
  | t :: r, i + 1, h, hi, he => by
    obtain ⟨a1, a2⟩ := List.pairwise_cons.1 (show List.Pairwise _ (t.handle :: r.map Aa.handle) from h)
    have hi' : i < r.length := by simpa using hi
    have he' : (r.getD i default).handle.slot = x.handle.slot := by simpa using he
    have hm : (r.getD i default).handle ∈ r.map Aa.handle := List.mem_map.2 ⟨_, Mn hi', rfl⟩
    have := a1 _ hm
    unfold Fp
    rw [if_pos z2, oA a2 hi' he']; rfl
theorem wN {s : Ax} (e : (Ch s).2.2 = 0) : Dx (Ch s).1 = bO (Dx s) (Ch s).2.1 := by
  have h := sW e
  refine Up.ext (Un _) (Un s).put fun x => ?_
  rw [h.all, nZ h.slot]
theorem sY {α : Type} (l : List α) (i : Nat) : delL l i (i + 1) = l.take i ++ l.drop (i + 1) := rfl
theorem X7 {α : Type} [Inhabited α] {l : List α} (hn : l.Nodup) {i : Nat} (hi : i < l.length) (x : α) : x ∈ delL l i (i + 1) ↔ x ∈ l ∧ x ≠ l.getD i default := by
  rw [sY, List.mem_append]
  have e : l = l.take i ++ (l.getD i default :: l.drop (i + 1)) := by rw [← Fe hi, List.take_append_drop]
  generalize l.getD i default = y at e ⊢
  generalize l.take i = a at e ⊢
  generalize l.drop (i + 1) = b at e ⊢
  subst e
  rw [List.nodup_append] at hn
  obtain ⟨_, h2, h3⟩ := hn
  have h4 := (List.nodup_cons.1 h2).1
  rw [List.mem_append, List.mem_cons]
  constructor
  · rintro (h | h)
    · exact ⟨.inl h, h3 x h y List.mem_cons_self⟩
    · exact ⟨.inr (.inr h), fun e => h4 (e ▸ h)⟩
  · rintro ⟨h | h | h, h5⟩
    · exact .inl h
    · exact absurd h h5
    · exact .inr h
theorem fD {α : Type} (l : List α) (i : Nat) : (delL l i (i + 1)).Sublist l := by
  rw [sY]
  have h := List.Sublist.append (List.Sublist.refl (l.take i)) (List.drop_sublist_drop_left l (Nat.le_succ i))
  rwa [List.take_append_drop] at h
theorem wO {s : Ax} {i : Nat} (hi : i < (Dx s).length) : Dx (Ft s ((Dx s).getD i default)).1 = delL (Dx s) i (i + 1) := by
  have h := (sX (s := s) (h := (Dx s).getD i default) (Mn hi)).2
  refine Up.ext (Un _) ((Un s).sublist (fD _ _)) fun x => ?_
  rw [h.all, X7 (Un s).nodup hi]
theorem I5 {α β : Type} (f : α → β) (l : List α) (i j : Nat) : (delL l i j).map f = delL (l.map f) i j := by
  unfold delL; rw [List.map_append, List.map_take, List.map_drop]
end Go.Proofs.YtopjaeoklkpcpaaGreatDoor.Jd

namespace Go.Proofs.YtopjaeoklkpcpaaGreatDoor.Jd
open Go.Proofs.Tryz
set_option linter.unusedVariables false
set_option linter.unusedSimpArgs false
theorem Tk (r : Ac) (name : Ap) : ∀ n i, r.l.length < i + n → i ≤ r.l.length → (∃ j, i ≤ j ∧ j < r.l.length ∧ Bn (Dz r name n i) (fun r => r) (fun x_1 => ((0 : Int), false)) = ((j : Int), true) ∧ (r.l.getD j default).name = name) ∨ (Bn (Dz r name n i) (fun r => r) (fun x_1 => ((0 : Int), false)) = (0, false) ∧ ∀ j, i ≤ j → j < r.l.length → (r.l.getD j default).name ≠ name)
  | 0, i, h1, h2 => by omega
  | n + 1, i, h1, h2 => by
    unfold Dz
    by_cases hi : i < r.l.length
    · rw [if_pos z2]
      by_cases hn : (r.l.getD i default).name = name
      · rw [if_pos hn]; exact .inl ⟨i, Nat.le_refl _, hi, rfl, hn⟩
      · rw [if_neg hn]
        rcases Tk r name n (i + 1) z2 z2 with ⟨j, h3, h4, h5, h6⟩ | ⟨h3, h4⟩
        · exact .inl ⟨j, by omega, h4, h5, h6⟩
        · refine .inr ⟨h3, fun j h5 h6 => ?_⟩
          by_cases e : j = i
          · subst e; exact hn
          · exact h4 j z2 h6
    · rw [if_neg z2]; exact .inr ⟨rfl, fun j h3 h4 => by omega⟩
theorem aU (r : Ac) (name : Ap) : (∃ i, i < r.l.length ∧ Am r name = ((i : Int), true) ∧ (r.l.getD i default).name = name) ∨ (Am r name = (0, false) ∧ ∀ t ∈ r.l, t.name ≠ name) := by
  rcases Tk r name (r.l.length + 1) 0 z2 z2 with ⟨j, h3, h4, h5, h6⟩ | ⟨h3, h4⟩
  · exact .inl ⟨j, h4, h5, h6⟩
  · refine .inr ⟨h3, fun t ht => ?_⟩
    obtain ⟨k, hk, e⟩ := Zz ht
    rw [← e]; exact h4 k z2 hk
theorem I6 {l : List Aa} (h : (l.map Aa.name).Nodup) {i j : Nat} (hi : i < l.length) (hj : j < l.length) (e : (l.getD i default).name = (l.getD j default).name) : i = j := by
  have e2 : (l.map Aa.name)[i]'(by simpa using hi) = (l.map Aa.name)[j]'(by simpa using hj) := by
    simpa [List.getD, hi, hj] using e
  rcases Nat.lt_trichotomy i j with hij | hij | hij
  · exact absurd e2 (List.pairwise_iff_getElem.1 h i j _ _ hij)
  · exact hij
  · exact absurd e2.symm (List.pairwise_iff_getElem.1 h j i _ _ hij)
theorem qX {r : Ac} {name : Ap} (h : ∀ t ∈ r.l, t.name ≠ name) : Am r name = (0, false) := by
  rcases aU r name with ⟨j, h1, h2, h3⟩ | ⟨h1, _⟩
  · exact absurd h3 (h _ (Mn h1))
  · exact h1
def noT : Aa := Aa.mk (Ar.mk 0 0) [] 0 0 [] [] 0
theorem iY {r : Ac} {name : Ap} (h : ∀ t ∈ r.l, t.name ≠ name) : Ee r name = (noT, false) := by
  unfold Ee
  rw [qX h]; rfl
theorem sZ {r : Ac} {name : Ap} {i : Nat} (h : Am r name = ((i : Int), true)) : Ee r name = (r.l.getD i default, true) := by
  unfold Ee
  rw [h]; rfl
theorem Qf.mono {a b : Int} {t : Aa} (h : Qf a t) (hab : a ≤ b) : Qf b t := ⟨h.name, ⟨h.version.1, by have := h.version.2; omega⟩, h.state, h.deadline, h.drains, h.rules, h.creds⟩
section
variable {r : Ac}
theorem Ev.up (h : Ev r) : Up (r.l.map Aa.handle) := by rw [h.hs]; exact Un _
theorem Ev.len (h : Ev r) : (Dx r.slots).length = r.l.length := by rw [← h.hs]; simp
theorem Ev.next (h : Ev r) (hq : r.seq < 1000000000000) : Ev (xR r) := ⟨h.slots, by have := h.seq; exact ⟨by show 0 ≤ r.seq + 1; omega, by show r.seq + 1 ≤ _; omega⟩, h.hs, h.names, fun t ht => (h.ok t ht).mono (by show r.seq ≤ r.seq + 1; omega)⟩
theorem Ev.at (h : Ev r) {i : Nat} (hi : i < r.l.length) : (Dx r.slots).getD i default = (r.l.getD i default).handle := ((Qg h.len).2 h.hs i hi).symm
theorem Ev.handle (h : Ev r) {t : Aa} (ht : t ∈ r.l) : t.handle ∈ Dx r.slots := by rw [← h.hs]; exact List.mem_map.2 ⟨t, ht, rfl⟩
end
theorem Yw {α β : Type} [Inhabited α] {f : α → β} {l : List α} {i : Nat} {u : α} (hi : i < l.length) (e : f u = f (l.getD i default)) : (l.set i u).map f = l.map f := by
  rw [List.map_set, e]
  refine List.ext_getElem Hb fun k h1 h2 => ?_
  rw [List.getElem_set]
  split
  · rename_i e2; subst e2; simp [List.getD, hi]
  · rfl
theorem Ev.put {r : Ac} (h : Ev r) (hq : r.seq < 1000000000000) {i : Nat} (hi : i < r.l.length) {u : Aa} (hh : u.handle = (r.l.getD i default).handle) (hn : u.name = (r.l.getD i default).name) (hu : Qf (r.seq + 1) u) : Fp r.l u = r.l.set i u ∧ Ev ⟨r.slots, r.l.set i u, r.seq + 1⟩ := by
  refine ⟨oA h.up hi (by rw [hh]), h.slots, by have := h.seq; exact ⟨by show 0 ≤ r.seq + 1; omega, by show r.seq + 1 ≤ _; omega⟩, ?_, ?_, fun t ht => ?_⟩
  · show (r.l.set i u).map Aa.handle = _
    rw [Yw hi hh]; exact h.hs
  · show ((r.l.set i u).map Aa.name).Nodup
    rw [Yw hi hn]; exact h.names
  · rcases List.mem_or_eq_of_mem_set ht with ht | rfl
    · exact (h.ok t ht).mono (by show r.seq ≤ r.seq + 1; omega)
    · exact hu
theorem Ev.del {r : Ac} (h : Ev r) (hq : r.seq < 1000000000000) {i : Nat} (hi : i < r.l.length) : Ev ⟨(Ft r.slots (r.l.getD i default).handle).1, delL r.l i (i + 1), r.seq + 1⟩ := by
  have hi2 : i < (Dx r.slots).length := by rw [h.len]; exact hi
  have e := wO hi2
  have g := (sX (s := r.slots) (h := (r.l.getD i default).handle) (h.handle (Mn hi))).2
  rw [h.at hi] at e
  refine ⟨g.right, by have := h.seq; exact ⟨by show 0 ≤ r.seq + 1; omega, by show r.seq + 1 ≤ _; omega⟩, ?_, ?_, fun t ht => ?_⟩
  · show (delL r.l i (i + 1)).map Aa.handle = _
    rw [I5, h.hs, e]
  · exact h.names.sublist ((fD _ _).map _)
  · exact (h.ok t ((fD _ _).subset ht)).mono (by show r.seq ≤ r.seq + 1; omega)
theorem Ev.new {r : Ac} (h : Ev r) (hq : r.seq < 1000000000000) (e : (Ch r.slots).2.2 = 0) {t : Aa} (hh : t.handle = (Ch r.slots).2.1) (hn : ∀ u ∈ r.l, u.name ≠ t.name) (ht : Qf (r.seq + 1) t) : (Fp r.l t).Perm (t :: r.l) ∧ Ev ⟨(Ch r.slots).1, Fp r.l t, r.seq + 1⟩ := by
  have k := sW e
  have hp : (Fp r.l t).Perm (t :: r.l) := iX fun u hu => by rw [hh]; exact k.slot _ (h.handle hu)
  refine ⟨hp, k.right, by have := h.seq; exact ⟨by show 0 ≤ r.seq + 1; omega, by show r.seq + 1 ≤ _; omega⟩, ?_, ?_, fun u hu => ?_⟩
  · show (Fp r.l t).map Aa.handle = _
    rw [Yv, h.hs, wN e, hh]
  · refine ((hp.map Aa.name).nodup_iff).2 ?_
    rw [List.map_cons, List.nodup_cons]
    exact ⟨fun hm => by obtain ⟨u, hu, e⟩ := List.mem_map.1 hm; exact hn u hu e, h.names⟩
  · rcases List.mem_cons.1 (hp.mem_iff.1 hu) with rfl | hu
    · exact ht
    · exact (h.ok u hu).mono (by show r.seq ≤ r.seq + 1; omega)
end Go.Proofs.YtopjaeoklkpcpaaGreatDoor.Jd

namespace Go.Proofs.YtopjaeoklkpcpaaGreatDoor.Jd
open Go.Proofs.Tryz
set_option linter.unusedVariables false
set_option linter.unusedSimpArgs false
def Jf (now ov : Int) (c : Bw) : Int := if now + ov < c.to then now + ov else c.to
def Nq (now ov : Int) (c : Bw) : Option Bw := if c.to ≤ now then none else if c.frm < Jf now ov c then some ⟨c.id, c.key, c.frm, Jf now ov c⟩ else none
def idC (i : Int) (l : List Bw) : Int := l.foldl (fun _ c => c.id + 1) i
theorem Rd (l : List Bw) (key : Ap) (now ov span : Int) : ∀ n k out id, l.length < n + k → (Ib l key now ov span n k out id).2 = (out ++ (l.drop k).filterMap (Nq now ov), idC id (l.drop k))
  | 0, k, out, id, h => by
    rw [Mi l k z2]
    simp [Ib, idC]
  | n + 1, k, out, id, h => by
    rw [Ib]
    by_cases hk : k < l.length
    · rw [if_pos z2, Zr l k hk, List.filterMap_cons]
      show _ = (_, idC ((l.getD k default).id + 1) (l.drop (k + 1)))
      by_cases h1 : (l.getD k default).to ≤ now
      · rw [if_pos h1, Rd l key now ov span n (k + 1) _ _ z2, show Nq now ov (l.getD k default) = none by unfold Nq; rw [if_pos h1]]
      · rw [if_neg h1]
        by_cases h2 : (l.getD k default).frm < Jf now ov (l.getD k default)
        · rw [show Nq now ov (l.getD k default) = some ⟨(l.getD k default).id, (l.getD k default).key, (l.getD k default).frm, Jf now ov (l.getD k default)⟩ by unfold Nq; rw [if_neg h1, if_pos h2]]
          unfold Jf at h2
          rw [if_pos h2, Rd l key now ov span n (k + 1) _ _ z2]
          simp [Jf]
        · rw [show Nq now ov (l.getD k default) = none by unfold Nq; rw [if_neg h1, if_neg h2]]
          unfold Jf at h2
          rw [if_neg h2, Rd l key now ov span n (k + 1) _ _ z2]
    · rw [if_neg z2, Mi l k hk]
      simp [idC]
def AJ7 (l : List Bw) (key : Ap) (now ov span : Int) : List Bw × Int × Int :=
  if ¬ Kd l = true then ([], 0, 110) else if ¬ Qn key = true then ([], 0, 50)
  else if ¬ ((0 ≤ now ∧ now ≤ 1000000000000) ∧ (0 ≤ ov ∧ ov ≤ 1000000000) ∧ (1 ≤ span ∧ span ≤ 1000000000) ∧ now + span ≤ 1000000000000) then ([], 0, 2)
  else if 4 < (l.filterMap (Nq now ov)).length + 1 ∨ 1000000000 < idC 1 l then ([], 0, 92)
  else (l.filterMap (Nq now ov) ++ [⟨idC 1 l, key, now, now + span⟩], idC 1 l, 0)
theorem Tl {n a b : Int} (h : Lw n a b = false) : ¬ (a ≤ n ∧ n ≤ b) := fun e => by
  rw [Ie.2 e] at h; cases h
theorem X8 (l : List Bw) (key : Ap) (now ov span : Int) : Fg l key now ov span = AJ7 l key now ov span := by
  unfold Fg AJ7
  cases h1 : Kd l
  · simp
  · cases h2 : Qn key
    · simp
    · simp only [Bool.not_true, Bool.false_eq_true, if_false, not_true_eq_false]
      cases h3 : Lw now 0 1000000000000
      · have := Tl h3
        simp only [Bool.not_false, if_true]
        rw [if_pos z2]
      · have g3 := Ie.1 h3
        cases h4 : Lw ov 0 1000000000
        · have := Tl h4
          simp only [Bool.not_true, Bool.not_false, Bool.false_eq_true, if_false, if_true]
          rw [if_pos z2]
        · have g4 := Ie.1 h4
          cases h5 : Lw span 1 1000000000
          · have := Tl h5
            simp only [Bool.not_true, Bool.not_false, Bool.false_eq_true, if_false, if_true]
            rw [if_pos z2]
          · have g5 := Ie.1 h5
            simp only [Bool.not_true, Bool.false_eq_true, if_false]
            by_cases h6 : 1000000000000 < now + span
            · rw [if_pos h6, if_pos z2]
            · rw [if_neg h6, if_neg (show ¬ ¬ _ by omega)]
              have e := Rd l key now ov span (l.length + 1) 0 [] 1 z2
              simp only [gG]
              rw [List.drop_zero, List.nil_append] at e
              rw [e]
              simp only [List.length_append, List.length_cons, List.length_nil]
              by_cases h7 : 4 < (l.filterMap (Nq now ov)).length + 1
              · rw [if_pos z2, if_pos (.inl h7)]
              · rw [if_neg z2]
                by_cases h8 : 1000000000 < idC 1 l
                · rw [if_pos h8, if_pos (.inr h8)]
                · rw [if_neg h8, if_neg (by simp [h7, h8])]
theorem I7 : ∀ (l : List Bw) (i : Int), (∀ c ∈ l, i ≤ c.id) → l.Pairwise (fun a b => a.id < b.id) → i ≤ idC i l ∧ ∀ c ∈ l, c.id < idC i l
  | [], i, _, _ => ⟨Int.le_refl _, nofun⟩
  | c :: r, i, h, hp => by
    rw [List.pairwise_cons] at hp
    have h1 := h c List.mem_cons_self
    obtain ⟨g1, g2⟩ := I7 r (c.id + 1) (fun d hd => by have := hp.1 d hd; omega) hp.2
    show i ≤ idC (c.id + 1) r ∧ ∀ d ∈ c :: r, d.id < idC (c.id + 1) r
    refine ⟨by omega, fun d hd => ?_⟩
    rcases List.mem_cons.1 hd with rfl | hd
    · omega
    · exact g2 d hd
theorem Su.idC {l : List Bw} (h : Su l) : 1 ≤ idC 1 l ∧ ∀ c ∈ l, c.id < Jd.idC 1 l :=
  I7 l 1 (fun c hc => (h.2.1 c hc).1.1) h.2.2
theorem Re {now ov : Int} {c d : Bw} : Nq now ov c = some d ↔ now < c.to ∧ c.frm < Jf now ov c ∧ d = ⟨c.id, c.key, c.frm, Jf now ov c⟩ := by
  unfold Nq
  split
  · simp; omega
  · split
    · simp; constructor
      · rintro rfl; exact ⟨by omega, by assumption, rfl⟩
      · rintro ⟨_, _, rfl⟩; rfl
    · simp; omega
theorem wP {now ov : Int} {c : Bw} : Jf now ov c ≤ c.to ∧ Jf now ov c ≤ now + ov ∧ (Jf now ov c = c.to ∨ Jf now ov c = now + ov) := by
  unfold Jf; split <;> omega
structure oB (l : List Bw) (key : Ap) (now ov span : Int) : Prop where
  right : Su l
  kk : 1 ≤ key.length ∧ key.length ≤ 64
  nn : 0 ≤ now ∧ now ≤ 1000000000000
  oo : 0 ≤ ov ∧ ov ≤ 1000000000
  ss : 1 ≤ span ∧ span ≤ 1000000000
  sum : now + span ≤ 1000000000000
  few : (l.filterMap (Nq now ov)).length + 1 ≤ 4
  id : idC 1 l ≤ 1000000000
  out : (Fg l key now ov span).1 = l.filterMap (Nq now ov) ++ [⟨idC 1 l, key, now, now + span⟩]
  idv : (Fg l key now ov span).2.1 = idC 1 l
theorem AJ8 {l : List Bw} {key : Ap} {now ov span : Int} (h : (Fg l key now ov span).2.2 = 0) : oB l key now ov span := by
  have e := X8 l key now ov span
  unfold AJ7 at e
  split at e
  · rw [e] at h; simp at h
  · rename_i h1
    split at e
    · rw [e] at h; simp at h
    · rename_i h2
      split at e
      · rw [e] at h; simp at h
      · rename_i h3
        split at e
        · rw [e] at h; simp at h
        · rename_i h4
          have h3' := Classical.not_not.1 h3
          obtain ⟨a1, a2, a3, a4⟩ := h3'
          exact ⟨Nh.1 (Classical.not_not.1 h1), dX.1 (Classical.not_not.1 h2), a1, a2, a3, a4, by omega, by omega, by rw [e], by rw [e]⟩
variable {l : List Bw} {key : Ap} {now ov span : Int}
theorem oB.mem (h : oB l key now ov span) {d : Bw} : d ∈ (Fg l key now ov span).1 ↔ (∃ c ∈ l, Nq now ov c = some d) ∨ d = ⟨idC 1 l, key, now, now + span⟩ := by
  rw [h.out, List.mem_append, List.mem_filterMap]
  simp
theorem oB.isRight (h : oB l key now ov span) : Su (Fg l key now ov span).1 := by
  have hid := h.right.idC
  refine ⟨?_, fun d hd => ?_, ?_⟩
  · rw [h.out, List.length_append]; have := h.few; simp; omega
  · rcases h.mem.1 hd with ⟨c, hc, ht⟩ | rfl
    · obtain ⟨t1, t2, rfl⟩ := Re.1 ht
      obtain ⟨g1, g2, g3, g4, g5⟩ := h.right.2.1 c hc
      have := @wP now ov c
      exact ⟨g1, g2, g3, t2, by show Jf now ov c ≤ _; omega⟩
    · have := h.id; have := h.sum; have := h.ss; have := h.nn
      exact ⟨⟨hid.1, h.id⟩, h.kk, h.nn.1, by show now < now + span; omega, h.sum⟩
  · rw [h.out, List.pairwise_append]
    refine ⟨?_, List.pairwise_singleton _ _, fun a ha b hb => ?_⟩
    · refine List.Pairwise.filterMap _ (fun a a' haa b hb b' hb' => ?_) h.right.2.2
      obtain ⟨_, _, rfl⟩ := Re.1 hb
      obtain ⟨_, _, rfl⟩ := Re.1 hb'
      exact haa
    · obtain ⟨c, hc, ht⟩ := List.mem_filterMap.1 ha
      obtain ⟨_, _, rfl⟩ := Re.1 ht
      have : b = ⟨Jd.idC 1 l, key, now, now + span⟩ := by simpa using hb
      subst this
      exact hid.2 c hc
end Go.Proofs.YtopjaeoklkpcpaaGreatDoor.Jd

namespace Go.Proofs.YtopjaeoklkpcpaaGreatDoor.Jd
open Go.Proofs.Tryz
set_option linter.unusedVariables false
set_option linter.unusedSimpArgs false
def Lx (r : Ac) (e : Int) : Ac × Cm := (xR r, Cm.mk e (r.seq + 1) (Ar.mk 0 0) 0 0)
def noR : Ac × Cm := (Ac.mk (Ax.mk [] [] []) [] 0, Cm.mk 150 0 (Ar.mk 0 0) 0 0)
def K3 (t : Aa) (c : Ak) (now : Int) : Aa × Int :=
  if c.verb = 2 then (Aa.mk t.handle t.name 2 (t.version + 1) t.rules t.creds 0, if t.state = 2 then 156 else 0)
  else if c.verb = 3 then (Aa.mk t.handle t.name 1 (t.version + 1) t.rules t.creds 0, if t.state = 2 then 0 else 156)
  else if c.verb = 4 then (Aa.mk t.handle t.name 3 (t.version + 1) t.rules t.creds (now + c.n), if t.state = 1 then (if c.n < 1 ∨ 1000000000 < c.n ∨ 1000000000000 < now + c.n then 2 else 0) else 156)
  else if c.verb = 6 then (Aa.mk t.handle t.name t.state (t.version + 1) t.rules (Fg t.creds c.key now c.n c.m).1 t.deadline, (Fg t.creds c.key now c.n c.m).2.2)
  else if 0 ≤ c.at_ then (Aa.mk t.handle t.name t.state (t.version + 1) (De t.rules c.at_ c.rule).1 t.creds t.deadline, (De t.rules c.at_ c.rule).2)
  else (Aa.mk t.handle t.name t.state (t.version + 1) (Dk t.rules (IntKind.wrap .i64 (0 - (c.at_ + 1)))).1 t.creds t.deadline, (Dk t.rules (IntKind.wrap .i64 (0 - (c.at_ + 1)))).2)
def wQ (r : Ac) (c : Ak) (now : Int) : Aa := Aa.mk (Ch r.slots).2.1 c.name 1 1 [] (Fg [] c.key now 0 c.n).1 0
def kX (r : Ac) (c : Ak) (now : Int) (i : Int) (t : Aa) : Ac × Cm :=
  if c.verb = 5 then (Ac.mk (Ft r.slots t.handle).1 (delL r.l i.toNat (i + 1).toNat) (r.seq + 1), Cm.mk 0 (r.seq + 1) t.handle (t.version + 1) t.state)
  else if c.verb = 8 ∨ c.verb = 10 then (xR r, Cm.mk 0 (r.seq + 1) t.handle t.version t.state)
  else if (K3 t c now).2 ≠ 0 then Lx r (K3 t c now).2
  else (Ac.mk r.slots (Fp r.l (K3 t c now).1) (r.seq + 1), Cm.mk 0 (r.seq + 1) t.handle (t.version + 1) (K3 t c now).1.state)
def doD (r : Ac) (c : Ak) (now : Int) : Ac × Cm :=
  if c.verb = 1 then
    if Hk c.name = true then
      if (Am r c.name).2 = true then Lx r 153
      else if (Ch r.slots).2.2 ≠ 0 then Lx r (Ch r.slots).2.2
      else if (Fg [] c.key now 0 c.n).2.2 ≠ 0 then Lx r (Fg [] c.key now 0 c.n).2.2
      else (Ac.mk (Ch r.slots).1 (Fp r.l (wQ r c now)) (r.seq + 1), Cm.mk 0 (r.seq + 1) (Ch r.slots).2.1 1 1)
    else Lx r 152
  else if c.verb = 9 then Lx r 0
  else if (Am r c.name).2 = true then
    if c.want ≠ 0 ∧ c.want ≠ (r.l.getD (Am r c.name).1.toNat default).version then Lx r 155
    else kX r c now (Am r c.name).1 (r.l.getD (Am r c.name).1.toNat default)
  else Lx r 154
theorem Yx (r : Ac) (name : Ap) : ∀ n i, Dz (xR r) name n i = Dz r name n i
  | 0, i => rfl
  | n + 1, i => by unfold Dz; rw [Yx r name n (i + 1)]
theorem Uo (r : Ac) (name : Ap) : Am (xR r) name = Am r name := by
  unfold Am; rw [Yx]
theorem qY {r : Ac} {role : Int} {c : Ak} {now : Int} (h : ¬ (Ga r = true ∧ r.seq < 1000000000000 ∧ 0 ≤ now ∧ now ≤ 1000000000000)) : Aq r role c now = noR := by
  unfold Aq
  cases hr : Ga r with
  | false => rfl
  | true =>
    simp only [Bool.not_true, Bool.false_eq_true, if_false]
    by_cases h2 : 1000000000000 ≤ r.seq
    · rw [if_pos h2]; rfl
    rw [if_neg h2]
    by_cases h3 : now < 0
    · rw [if_pos h3]; rfl
    rw [if_neg h3]
    by_cases h4 : 1000000000000 < now
    · rw [if_pos h4]; rfl
    exact absurd ⟨hr, by omega, by omega, by omega⟩ h
theorem qZ {r : Ac} {role : Int} {c : Ak} {now : Int} (h : Ga r = true ∧ r.seq < 1000000000000 ∧ 0 ≤ now ∧ now ≤ 1000000000000) (hm : Od role c.verb = false) : Aq r role c now = Lx r 151 := by
  unfold Aq
  rw [h.1, if_neg Hb, if_neg z2, if_neg z2, if_neg z2, hm]; rfl
theorem wR {r : Ac} {role : Int} {c : Ak} {now : Int} (h : Ga r = true ∧ r.seq < 1000000000000 ∧ 0 ≤ now ∧ now ≤ 1000000000000) (hm : Od role c.verb = true) : Aq r role c now = doD r c now := by
  have hv := kO hm
  unfold Aq doD
  rw [h.1, if_neg Hb, if_neg z2, if_neg z2, if_neg z2, hm, if_neg Hb]
  by_cases v1 : c.verb = 1
  · rw [if_pos v1, if_pos v1, Uo]
    cases hn : Hk c.name with
    | false => rfl
    | true =>
      simp only [Bool.not_true, Bool.false_eq_true, if_false, if_true, Ia]
      by_cases hp : (Am r c.name).2 = true
      · rw [if_pos hp, if_pos hp]; rfl
      rw [if_neg hp, if_neg hp]
      by_cases e1 : (Ch r.slots).2.2 ≠ 0
      · rw [if_pos e1, if_pos e1]; rfl
      rw [if_neg e1, if_neg e1]
      by_cases e2 : (Fg [] c.key now 0 c.n).2.2 ≠ 0
      · rw [if_pos e2, if_pos e2]; rfl
      rw [if_neg e2, if_neg e2]; rfl
  rw [if_neg v1, if_neg v1]
  by_cases v9 : c.verb = 9
  · rw [if_pos v9, if_pos v9]; rfl
  rw [if_neg v9, if_neg v9]
  have eN : xN r c = (Am r c.name).1.toNat := by show (Am (xR r) c.name).1.toNat = _; rw [Uo]
  have eA : xA r c = r.l.getD (Am r c.name).1.toNat default := by show r.l.getD (xN r c) default = _; rw [eN]
  rw [eA, Uo]
  generalize r.l.getD (Am r c.name).1.toNat default = t
  cases hp : (Am r c.name).2 with
  | false => rfl
  | true =>
    simp only [Bool.not_true, Bool.false_eq_true, if_false, if_true, Ia, Ka]
    by_cases w0 : c.want ≠ 0 ∧ c.want ≠ t.version
    · rw [if_pos w0, if_pos (by rw [if_pos w0.1]; simpa using w0.2)]; rfl
    rw [if_neg w0, if_neg (by
      by_cases w1 : c.want = 0
      · rw [if_neg (by simp [w1])]; simp
      · rw [if_pos w1]; simp; exact Classical.byContradiction fun w2 => w0 ⟨w1, w2⟩)]
    unfold kX K3
    by_cases v2 : c.verb = 2
    · rw [if_pos v2, if_neg (show ¬ c.verb = 5 by omega), if_neg (show ¬ (c.verb = 8 ∨ c.verb = 10) by omega), if_pos v2]
      by_cases s2 : t.state = 2
      · rw [if_pos (by simp [s2])]; simp [s2, Lx]
      · rw [if_neg (by simp [s2])]; simp [s2]
    rw [if_neg v2]
    by_cases v3 : c.verb = 3
    · rw [if_pos v3, if_neg (show ¬ c.verb = 5 by omega), if_neg (show ¬ (c.verb = 8 ∨ c.verb = 10) by omega), if_neg v2, if_pos v3]
      by_cases s2 : t.state = 2
      · rw [if_neg (by simp [s2])]; simp [s2]
      · rw [if_pos (by simp [s2])]; simp [s2, Lx]
    rw [if_neg v3]
    by_cases v4 : c.verb = 4
    · rw [if_pos v4, if_neg (show ¬ c.verb = 5 by omega), if_neg (show ¬ (c.verb = 8 ∨ c.verb = 10) by omega), if_neg v2, if_neg v3, if_pos v4]
      by_cases s2 : t.state = 1
      · rw [if_neg (by simp [s2])]
        simp only [s2, if_true]
        by_cases n1 : c.n < 1
        · rw [if_pos n1]; simp only [if_pos (show c.n < 1 ∨ 1000000000 < c.n ∨ 1000000000000 < now + c.n by omega)]; rw [if_pos Gi]; rfl
        rw [if_neg n1]
        by_cases n2 : 1000000000 < c.n
        · rw [if_pos n2]; simp only [if_pos (show c.n < 1 ∨ 1000000000 < c.n ∨ 1000000000000 < now + c.n by omega)]; rw [if_pos Gi]; rfl
        rw [if_neg n2]
        by_cases n3 : 1000000000000 < now + c.n
        · rw [if_pos n3]; simp only [if_pos (show c.n < 1 ∨ 1000000000 < c.n ∨ 1000000000000 < now + c.n by omega)]; rw [if_pos Gi]; rfl
        rw [if_neg n3]; simp only [if_neg (show ¬ (c.n < 1 ∨ 1000000000 < c.n ∨ 1000000000000 < now + c.n) by omega)]; rw [if_neg Gi]
      · rw [if_pos (by simp [s2])]; simp [s2, Lx]
    rw [if_neg v4]
    by_cases v6 : c.verb = 6
    · rw [if_pos v6, if_neg (show ¬ c.verb = 5 by omega), if_neg (show ¬ (c.verb = 8 ∨ c.verb = 10) by omega), if_neg v2, if_neg v3, if_neg v4, if_pos v6]; rfl
    rw [if_neg v6]
    by_cases v7 : c.verb = 7
    · rw [if_pos v7, if_neg (show ¬ c.verb = 5 by omega), if_neg (show ¬ (c.verb = 8 ∨ c.verb = 10) by omega), if_neg v2, if_neg v3, if_neg v4, if_neg v6]
      by_cases a0 : 0 ≤ c.at_
      · rw [if_pos a0, if_pos a0]; rfl
      · rw [if_neg a0, if_neg a0]; rfl
    rw [if_neg v7]
    by_cases v5 : c.verb = 5
    · rw [if_pos v5, if_pos v5]
    rw [if_neg v5, if_neg v5]
    by_cases v8 : c.verb = 8
    · rw [if_pos v8, if_pos (.inl v8)]
    rw [if_neg v8]
    by_cases v10 : c.verb = 10
    · rw [if_pos v10, if_pos (.inr v10)]
    omega
/-- A registry that takes a command at a tick. -/
structure K4 (r : Ac) (now : Int) : Prop where
  right : Ev r
  lt : r.seq < 1000000000000
  nn : 0 ≤ now ∧ now ≤ 1000000000000
/-- What a command comes to. -/
inductive I8 (r : Ac) (role : Int) (c : Ak) (now : Int) : Ac × Cm → Prop where
  | none (h : ¬ K4 r now) : I8 r role c now noR
  | fail (h : K4 r now) (e : Int) (h0 : e ≠ 0) (h1 : e ≠ 150) : I8 r role c now (Lx r e)
  | new (h : K4 r now) (hm : Od role c.verb = true) (hv : c.verb = 1) (hn : Hk c.name = true) (hf : ∀ t ∈ r.l, t.name ≠ c.name) (h1 : (Ch r.slots).2.2 = 0) (h2 : (Fg [] c.key now 0 c.n).2.2 = 0) : I8 r role c now (Ac.mk (Ch r.slots).1 (Fp r.l (wQ r c now)) (r.seq + 1), Cm.mk 0 (r.seq + 1) (Ch r.slots).2.1 1 1)
  | list (h : K4 r now) (hm : Od role c.verb = true) (hv : c.verb = 9) : I8 r role c now (Lx r 0)
  | del (h : K4 r now) (hm : Od role c.verb = true) (hv : c.verb = 5) (i : Nat) (hi : i < r.l.length) (hn : (r.l.getD i default).name = c.name) (hw : c.want = 0 ∨ c.want = (r.l.getD i default).version) : I8 r role c now (Ac.mk (Ft r.slots (r.l.getD i default).handle).1 (delL r.l i (i + 1)) (r.seq + 1), Cm.mk 0 (r.seq + 1) (r.l.getD i default).handle ((r.l.getD i default).version + 1) (r.l.getD i default).state)
  | look (h : K4 r now) (hm : Od role c.verb = true) (hv : c.verb = 8 ∨ c.verb = 10) (i : Nat) (hi : i < r.l.length) (hn : (r.l.getD i default).name = c.name) (hw : c.want = 0 ∨ c.want = (r.l.getD i default).version) : I8 r role c now (xR r, Cm.mk 0 (r.seq + 1) (r.l.getD i default).handle (r.l.getD i default).version (r.l.getD i default).state)
  | put (h : K4 r now) (hm : Od role c.verb = true) (hv : c.verb = 2 ∨ c.verb = 3 ∨ c.verb = 4 ∨ c.verb = 6 ∨ c.verb = 7) (i : Nat) (hi : i < r.l.length) (hn : (r.l.getD i default).name = c.name) (hw : c.want = 0 ∨ c.want = (r.l.getD i default).version) (hc : (K3 (r.l.getD i default) c now).2 = 0) (hs : Ev ⟨r.slots, r.l.set i (K3 (r.l.getD i default) c now).1, r.seq + 1⟩) : I8 r role c now (Ac.mk r.slots (r.l.set i (K3 (r.l.getD i default) c now).1) (r.seq + 1), Cm.mk 0 (r.seq + 1) (r.l.getD i default).handle ((r.l.getD i default).version + 1) (K3 (r.l.getD i default) c now).1.state)
theorem AJ9 {r : Ac} {c : Ak} {now : Int} (h : K4 r now) (hn : Hk c.name = true) (hf : ∀ t ∈ r.l, t.name ≠ c.name) (h1 : (Ch r.slots).2.2 = 0) (h2 : (Fg [] c.key now 0 c.n).2.2 = 0) : (Fp r.l (wQ r c now)).Perm (wQ r c now :: r.l) ∧ Ev ⟨(Ch r.slots).1, Fp r.l (wQ r c now), r.seq + 1⟩ :=
  h.right.new h.lt h1 rfl hf ⟨hn, ⟨(show (1 : Int) ≤ 1 by decide), by have := h.right.seq; show (1 : Int) ≤ r.seq + 1; omega⟩, (show (1 : Int) ≤ 1 ∧ (1 : Int) ≤ 3 by decide), (show (0 : Int) ≤ 0 ∧ (0 : Int) ≤ 1000000000000 by decide), .inl rfl, by rfl, Nh.2 (AJ8 h2).isRight⟩
section
variable {r : Ac} {role : Int} {c : Ak} {now : Int} {x : Ac × Cm}
theorem I8.right (h : I8 r role c now x) (he : x.2.err ≠ 150) : K4 r now ∧ Ev x.1 ∧ x.1.seq = r.seq + 1 ∧ x.2.seq = r.seq + 1 := by
  cases h with
  | none h => exact absurd rfl he
  | fail h e h0 h1 => exact ⟨h, h.right.next h.lt, rfl, rfl⟩
  | new h hm hv hn hf h1 h2 => exact ⟨h, (AJ9 h hn hf h1 h2).2, rfl, rfl⟩
  | list h hm hv => exact ⟨h, h.right.next h.lt, rfl, rfl⟩
  | del h hm hv i hi hn hw => exact ⟨h, h.right.del h.lt hi, rfl, rfl⟩
  | look h hm hv i hi hn hw => exact ⟨h, h.right.next h.lt, rfl, rfl⟩
  | put h hm hv i hi hn hw hc hs => exact ⟨h, hs, rfl, rfl⟩
theorem I8.err (h : I8 r role c now x) (he : x.2.err ≠ 150) (h0 : x.2.err ≠ 0) : K4 r now ∧ x = Lx r x.2.err := by
  cases h with
  | none h => exact absurd rfl he
  | fail h e h0 h1 => exact ⟨h, rfl⟩
  | new h hm hv hn hf h1 h2 => exact absurd rfl h0
  | list h hm hv => exact absurd rfl h0
  | del h hm hv i hi hn hw => exact absurd rfl h0
  | look h hm hv i hi hn hw => exact absurd rfl h0
  | put h hm hv i hi hn hw hc hs => exact absurd rfl h0
end
end Go.Proofs.YtopjaeoklkpcpaaGreatDoor.Jd

namespace Go.Proofs.YtopjaeoklkpcpaaGreatDoor.Jd
open Go.Proofs.Tryz
open Go.Proofs
set_option linter.unusedVariables false
set_option linter.unusedSimpArgs false
set_option maxRecDepth 100000
theorem rA (r : Ac) (role : Int) (c : Ak) (now : Int) : Eg r role c now = Aq r role c now := by
  by_cases h : Ga r = true ∧ r.seq < 1000000000000 ∧ 0 ≤ now ∧ now ≤ 1000000000000
  · cases hm : Od role c.verb with
    | false =>
      rw [qZ h hm]
      unfold Eg
      rw [h.1, if_neg Hb, if_neg z2, if_neg z2, if_neg z2, hm]; rfl
    | true =>
      rw [wR h hm]
      unfold Eg
      rw [h.1, if_neg Hb, if_neg z2, if_neg z2, if_neg z2, hm, if_neg Hb]
      have hv := kO hm
      unfold doD kX K3 Lx wQ
      simp only [Ia, Ka, R7, sJ, xA, xN, Uo]
      generalize r.l.getD (Am r c.name).1.toNat default = t
      generalize Am r c.name = p
      obtain hv | hv | hv | hv | hv | hv | hv | hv | hv | hv : c.verb = 1 ∨ c.verb = 2 ∨ c.verb = 3 ∨ c.verb = 4 ∨ c.verb = 5 ∨ c.verb = 6 ∨ c.verb = 7 ∨ c.verb = 8 ∨ c.verb = 9 ∨ c.verb = 10 := by omega
      all_goals simp only [hv, Int.reduceEq, if_false, if_true, reduceIte, false_or, or_false, or_true, true_or, or_self]
      · cases Hk c.name <;> simp
        cases p.2 <;> simp
        by_cases h1 : (Ch r.slots).2.2 = 0 <;> simp [h1]
        by_cases h2 : (Fg [] c.key now 0 c.n).2.2 = 0 <;> simp [h2]
      · cases p.2 <;> simp
        by_cases h1 : c.want = 0 <;> by_cases h2 : c.want = t.version <;> by_cases h3 : t.state = 2 <;> simp [h1, h2, h3] <;> simp_all
      · cases p.2 <;> simp
        by_cases h1 : c.want = 0 <;> by_cases h2 : c.want = t.version <;> by_cases h3 : t.state = 2 <;> simp [h1, h2, h3] <;> simp_all
      · cases p.2 <;> simp
        by_cases h1 : c.want = 0 <;> by_cases h2 : c.want = t.version <;> by_cases h3 : t.state = 1 <;> by_cases h4 : c.n < 1 <;> by_cases h5 : 1000000000 < c.n <;> by_cases h6 : 1000000000000 < now + c.n <;> simp [h1, h2, h3, h4, h5, h6] <;> simp_all
      · cases p.2 <;> simp
        by_cases h1 : c.want = 0 <;> by_cases h2 : c.want = t.version <;> simp [h1, h2] <;> simp_all
      · cases p.2 <;> simp
        by_cases h1 : c.want = 0 <;> by_cases h2 : c.want = t.version <;> by_cases h3 : (Fg t.creds c.key now c.n c.m).2.2 = 0 <;> simp [h1, h2, h3] <;> simp_all
      · cases p.2 <;> simp
        by_cases h1 : c.want = 0 <;> by_cases h2 : c.want = t.version <;> by_cases h3 : 0 ≤ c.at_ <;> by_cases h4 : (De t.rules c.at_ c.rule).2 = 0 <;> by_cases h5 : (Dk t.rules (IntKind.wrap .i64 (0 - (c.at_ + 1)))).2 = 0 <;> simp [h1, h2, h3, h4, h5] <;> simp_all
      · cases p.2 <;> simp
        by_cases h1 : c.want = 0 <;> by_cases h2 : c.want = t.version <;> simp [h1, h2] <;> simp_all
      · rfl
      · cases p.2 <;> simp
        by_cases h1 : c.want = 0 <;> by_cases h2 : c.want = t.version <;> simp [h1, h2] <;> simp_all
  · rw [qY h]
    unfold Eg
    cases hr : Ga r with
    | false => rfl
    | true =>
      simp only [Bool.not_true, Bool.false_eq_true, if_false]
      by_cases h2 : 1000000000000 ≤ r.seq
      · rw [if_pos h2]; rfl
      rw [if_neg h2]
      by_cases h3 : now < 0
      · rw [if_pos h3]; rfl
      rw [if_neg h3]
      by_cases h4 : 1000000000000 < now
      · rw [if_pos h4]; rfl
      exact absurd ⟨hr, by omega, by omega, by omega⟩ h
end Go.Proofs.YtopjaeoklkpcpaaGreatDoor.Jd

namespace Go.Proofs.YtopjaeoklkpcpaaGreatDoor.Jd
open Go.Proofs.Tryz
open Go.Proofs
open Go.RowKit (Below)
set_option maxRecDepth 100000
set_option maxHeartbeats 8000000
set_option linter.unusedVariables false
set_option linter.unusedSimpArgs false
theorem rB (w : World) {r_Sg_a : Option Addr} {r_Sg_c : Nat} {r_Su_a : Option Addr} {r_Su_c : Nat} {r_Sf_a : Option Addr} {r_Sf_c : Nat} {r_l_a : Option Addr} {r_l_c : Nat} {r_l_t : List TA} {ea0 : Addr} {ea1 : Addr} {ea2 : Addr} {ea3 : Addr} {r : Ac} {role : Int} {c : Ak} {now : Int} (h_r_Sg : Sl w eI 1 r_Sg_a r.slots.gens) (n_r_Sg : r.slots.gens.length ≤ 1000) (h_r_Su : Sl w eB 1 r_Su_a r.slots.used) (n_r_Su : r.slots.used.length ≤ 1000) (h_r_Sf : Sl w eI 1 r_Sf_a r.slots.free) (n_r_Sf : r.slots.free.length ≤ 1000) (h_r_l : Rm w Bu 8 DT r_l_a r.l r_l_t) (n_r_l : r.l.length ≤ 1000) (k_r_l : r.l.length ≤ r_l_c) (i_c_at_ : -9223372036854775808 ≤ c.at_ ∧ c.at_ ≤ 9223372036854775807) (hG : Gl w) (hE : Er w ea0 ea1 ea2 ea3) (hsm : Bk r.l) : Calls Tryz.prog 17 (List.toArray [(Value.agg [(vs r_Sg_a r.slots.gens.length r_Sg_c), (vs r_Su_a r.slots.used.length r_Su_c), (vs r_Sf_a r.slots.free.length r_Sf_c), (vs r_l_a r.l.length r_l_c), (vi r.seq)].toArray), (vi role), (Value.agg [(vi c.verb), (vt c.name), (vi c.want), (vi c.at_), (Value.bool c.rule.allow), (vi c.rule.pfx.addr), (vi c.rule.pfx.bits), (vi c.rule.prt.lo), (vi c.rule.prt.hi), (vt c.key), (vi c.n), (vi c.m)].toArray), (vi now)]) w fun e w2 => ∃ a1 : Option Addr, ∃ c1 : Nat, ∃ a2 : Option Addr, ∃ c2 : Nat, ∃ a3 : Option Addr, ∃ c3 : Nat, ∃ a4 : Option Addr, ∃ c4 : Nat, ∃ t4 : List TA, ∃ B : Aj, e = .returned (Value.tuple [(Value.agg [(vs a1 ((Eg r role c now).1.slots.gens.length) c1), (vs a2 ((Eg r role c now).1.slots.used.length) c2), (vs a3 ((Eg r role c now).1.slots.free.length) c3), (vs a4 ((Eg r role c now).1.l.length) c4), (vi ((Eg r role c now).1.seq))].toArray), (Value.agg [(vi ((Eg r role c now).2.err)), (vi ((Eg r role c now).2.seq)), (vi ((Eg r role c now).2.handle.slot)), (vi ((Eg r role c now).2.handle.gen)), (vi ((Eg r role c now).2.version)), (vi ((Eg r role c now).2.state))].toArray)].toArray) ∧ Dh w w2 B ∧ Dw B eI 1 a1 (Eg r role c now).1.slots.gens ∧ Dw B eB 1 a2 (Eg r role c now).1.slots.used ∧ Dw B eI 1 a3 (Eg r role c now).1.slots.free ∧ (Cx B Bu 8 DT a4 (Eg r role c now).1.l t4 ∧ (Eg r role c now).1.l.length ≤ c4) ∧ (Eg r role c now).1.slots.gens.length ≤ 1000 ∧ (Eg r role c now).1.slots.used.length ≤ 1000 ∧ (Eg r role c now).1.slots.free.length ≤ 1000 ∧ (Eg r role c now).1.l.length ≤ 1000 := by
 have hF := Is.refl (Eg r role c now)
 refine enter func17 ntmps17 (h := ?_)
 refine Z2 ?_
 refine Ah Ag Vf (k := fun r1 hr1 => ?_)
 refine Ah Ag (Hi (l := [_, _, _, _, _, _, _, _, _, _, _, _])) (k := fun r2 hr2 => ?_)
 refine Ah Ag Wy (k := fun r3 hr3 => ?_)
 refine Ah Ag xG (k := fun r4 hr4 => ?_)
 refine Me ?_
 refine lA ?_
 refine Fu (Ad call23) (fun w1 hw1 => Ui w1 (r := r) (h_r_Sg := (Bp.of_base h_r_Sg) w1 hw1) (n_r_Sg := by first | omega | (simp; done) | exact (hsm _ z2).1 | exact (hsm _ z2).2) (h_r_Su := (Bp.of_base h_r_Su) w1 hw1) (n_r_Su := by first | omega | (simp; done) | exact (hsm _ z2).1 | exact (hsm _ z2).2) (h_r_Sf := (Bp.of_base h_r_Sf) w1 hw1) (n_r_Sf := by first | omega | (simp; done) | exact (hsm _ z2).1 | exact (hsm _ z2).2) (h_r_l := (Ds.of_base Dc h_r_l).2 w1 hw1) (n_r_l := by first | omega | (simp; done) | exact (hsm _ z2).1 | exact (hsm _ z2).2) (k_r_l := k_r_l) (hsm := by first | omega | (simp; done) | exact (hsm _ z2).1 | exact (hsm _ z2).2)) (k := ?_)
 refine oT ?_
 refine Di 18 rfl (fun hq1 => ?_) (fun hq1 => ?_)
 ·refine Ae 3 rfl ?_
  refine Pj ?_
  refine Ae 2 rfl ?_
  refine Pj ?_
  refine Ae 2 rfl ?_
  refine Xe ?_
  refine L8 ?_
  refine Y4 ?_
  refine rO ?_
  refine Fl ?_
  refine Ab results17 z29 (fun w1 hw1 => ?_)
  exact ⟨none, 0, none, 0, none, 0, none, 0, [], [], (rq (hF.t hq1)), (hw1.fresh_out.sub Nr), (rn (hF.t hq1)), (rn (hF.t hq1)), (rn (hF.t hq1)), (by rw [(hF.t hq1).eq]; exact ⟨Cx.nil, by first | (simp; done) | exact Nat.le_of_eq rfl⟩), (rl (hF.t hq1)), (rl (hF.t hq1)), (rl (hF.t hq1)), (rl (hF.t hq1))⟩
 have hfhq1 := Tc tC
 refine cM ?_
 refine Bb Ki (k := ?_)
 refine Rv ?_
 refine Ao 23 rfl (fun hq2 => ?_) (fun hq2 => ?_)
 ·refine Ae 2 rfl ?_
  refine Pj ?_
  refine Ae 2 rfl ?_
  refine Xe ?_
  refine L8 ?_
  refine Y4 ?_
  refine rO ?_
  refine Fl ?_
  refine Ab results17 z29 (fun w1 hw1 => ?_)
  exact ⟨none, 0, none, 0, none, 0, none, 0, [], [], (rq ((hF.f hq1).pos hq2)), (hw1.fresh_out.sub Nr), (rn ((hF.f hq1).pos hq2)), (rn ((hF.f hq1).pos hq2)), (rn ((hF.f hq1).pos hq2)), (by rw [((hF.f hq1).pos hq2).eq]; exact ⟨Cx.nil, by first | (simp; done) | exact Nat.le_of_eq rfl⟩), (rl ((hF.f hq1).pos hq2)), (rl ((hF.f hq1).pos hq2)), (rl ((hF.f hq1).pos hq2)), (rl ((hF.f hq1).pos hq2))⟩
 refine Q0 ?_
 refine Rv ?_
 refine Ao 27 rfl (fun hq3 => ?_) (fun hq3 => ?_)
 ·refine Ae 2 rfl ?_
  refine Xe ?_
  refine L8 ?_
  refine Y4 ?_
  refine rO ?_
  refine Fl ?_
  refine Ab results17 z29 (fun w1 hw1 => ?_)
  exact ⟨none, 0, none, 0, none, 0, none, 0, [], [], (rq (((hF.f hq1).neg hq2).pos hq3)), (hw1.fresh_out.sub Nr), (rn (((hF.f hq1).neg hq2).pos hq3)), (rn (((hF.f hq1).neg hq2).pos hq3)), (rn (((hF.f hq1).neg hq2).pos hq3)), (by rw [(((hF.f hq1).neg hq2).pos hq3).eq]; exact ⟨Cx.nil, by first | (simp; done) | exact Nat.le_of_eq rfl⟩), (rl (((hF.f hq1).neg hq2).pos hq3)), (rl (((hF.f hq1).neg hq2).pos hq3)), (rl (((hF.f hq1).neg hq2).pos hq3)), (rl (((hF.f hq1).neg hq2).pos hq3))⟩
 refine lP ?_
 refine Qh ?_
 refine Au rfl (fun hq4 => ?_) (fun hq4 => ?_)
 ·refine Bg ?_
  refine Cs ?_
  refine L8 ?_
  refine Y4 ?_
  refine rO ?_
  refine Fl ?_
  refine Ab results17 z29 (fun w1 hw1 => ?_)
  exact ⟨none, 0, none, 0, none, 0, none, 0, [], [], (rq ((((hF.f hq1).neg hq2).neg hq3).pos hq4)), (hw1.fresh_out.sub Nr), (rn ((((hF.f hq1).neg hq2).neg hq3).pos hq4)), (rn ((((hF.f hq1).neg hq2).neg hq3).pos hq4)), (rn ((((hF.f hq1).neg hq2).neg hq3).pos hq4)), (by rw [((((hF.f hq1).neg hq2).neg hq3).pos hq4).eq]; exact ⟨Cx.nil, by first | (simp; done) | exact Nat.le_of_eq rfl⟩), (rl ((((hF.f hq1).neg hq2).neg hq3).pos hq4)), (rl ((((hF.f hq1).neg hq2).neg hq3).pos hq4)), (rl ((((hF.f hq1).neg hq2).neg hq3).pos hq4)), (rl ((((hF.f hq1).neg hq2).neg hq3).pos hq4))⟩
 refine aY ?_
 refine AM3 ?_
 rintro w1_1 e1_1 w2_1 hw1_1 ⟨a1_1, c1_1, a2_1, c2_1, a3_1, c3_1, a4_1, c4_1, t4_1, B_1, he_1, hf_1, hs1_1, hs2_1, hs3_1, hs4_1, hl1_1, hl2_1, hl3_1, hl4_1⟩
 refine ⟨_, _, he_1, hw1_1.fresh hf_1, ?_⟩
 refine oQ ?_
 refine Z2 ?_
 refine oP ?_
 refine Zi ?_
 refine N1 ?_
 refine Me ?_
 refine Z4 ?_
 refine Af (Ai cG) (k := ?_)
 refine Hx ?_
 refine Fu (Ad call40) (fun w1 hw1 => E4 w1 (n_ := role) (v := c.verb) (hG := hG.ext hw1.ext_out) (hE := hE.ext hw1.ext_out)) (k := ?_)
 refine Rj ?_
 refine Ct rfl (fun hq5 => ?_) (fun hq5 => ?_)
 ·refine Bg ?_
  refine Gv _ _ (vp ((qc q0).trans (qa (qc q0))) (nC (nC nE))) Da 6 [(true, 0), (true, 1), (true, 2), (true, 3), (false, 4), (false, 5)] z4 ?_
  refine mB ?_
  refine O3 ?_
  refine Aw z58 (k := ?_)
  refine AD2 ?_
  refine Oz ?_
  refine cQ ?_
  refine Fl ?_
  refine Ab results17 z29 (fun w1 hw1 => ?_)
  exact ⟨a1_1, c1_1, a2_1, c2_1, a3_1, c3_1, a4_1, c4_1, t4_1, B_1, (rq (((((hF.f hq1).neg hq2).neg hq3).neg hq4).t hq5)), (Ba (L := B_1) (hw1.perm (qb (qb q0))) rfl.symm), (by rw [(((((hF.f hq1).neg hq2).neg hq3).neg hq4).t hq5).eq]; exact (hs1_1.mono z8)), (by rw [(((((hF.f hq1).neg hq2).neg hq3).neg hq4).t hq5).eq]; exact (hs2_1.mono z8)), (by rw [(((((hF.f hq1).neg hq2).neg hq3).neg hq4).t hq5).eq]; exact (hs3_1.mono z8)), (by rw [(((((hF.f hq1).neg hq2).neg hq3).neg hq4).t hq5).eq]; exact ⟨(hs4_1.1.mono sh), hs4_1.2⟩), (rl (((((hF.f hq1).neg hq2).neg hq3).neg hq4).t hq5)), (rl (((((hF.f hq1).neg hq2).neg hq3).neg hq4).t hq5)), (rl (((((hF.f hq1).neg hq2).neg hq3).neg hq4).t hq5)), (rl (((((hF.f hq1).neg hq2).neg hq3).neg hq4).t hq5))⟩
 have hfhq5 := kO (by simpa using hq5)
 refine Js ?_
 refine F9 (σ1 := Bool) (σ2 := Int) (σ3 := Int) (σ4 := Int) (σ5 := Ap) (σ6 := Int) (σ7 := Int) (σ8 := List Bf) (σ9 := Option Addr) (σ10 := Nat) (σ11 := List Bw) (σ12 := Option Addr) (σ13 := Nat) (σ14 := Int) (σ15 := List Int) (σ16 := Option Addr) (σ17 := Nat) (σ18 := List Bool) (σ19 := Option Addr) (σ20 := Nat) (σ21 := List Int) (σ22 := Option Addr) (σ23 := Nat) (σ24 := List Aa) (σ25 := List TA) (σ26 := Option Addr) (σ27 := Nat) (σ28 := Aj) (σ29 := Nat) (σ30 := Nat) (fun err_1b err_1 x_2 x_3 x_4 x_5 x_6 x_7 x_7a x_7c x_8 x_8a x_8c x_9 x_10 x_10a x_10c x_11 x_11a x_11c x_12 x_12a x_12c x_13 x_13t x_13a x_13c x_7B r14 r13 => (x_7B ++ ((r14, oc [(vi x_2), (vi x_3), (vt x_4), (vi x_5), (vi x_6), (vs x_7a x_7.length x_7c), (vs x_8a x_8.length x_8c), (vi x_9)] 52) :: ((r13, oc [(vs x_10a x_10.length x_10c), (vs x_11a x_11.length x_11c), (vs x_12a x_12.length x_12c), (vs x_13a x_13.length x_13c), (vi (r.seq + 1))] 28) :: (B_1 ++ ((r4, oc [(vi 0), (vi 0), (vi 0), (vi 0), (vi 0), (vi 0)] 44) :: ((r3, oc [(vs none 0 0), (vs none 0 0), (vs none 0 0), (vs none 0 0), (vi 0)] 28) :: ((r2, oc [(vi c.verb), (vt c.name), (vi c.want), (vi c.at_), (Value.bool c.rule.allow), (vi c.rule.pfx.addr), (vi c.rule.pfx.bits), (vi c.rule.prt.lo), (vi c.rule.prt.hi), (vt c.key), (vi c.n), (vi c.m)] 36) :: ((r1, oc [(vs a1_1 r.slots.gens.length c1_1), (vs a2_1 r.slots.used.length c2_1), (vs a3_1 r.slots.free.length c3_1), (vs a4_1 r.l.length c4_1), (vi (r.seq + 1))] 28) :: []))))))))) (fun err_1b err_1 x_2 x_3 x_4 x_5 x_6 x_7 x_7a x_7c x_8 x_8a x_8c x_9 x_10 x_10a x_10c x_11 x_11a x_11c x_12 x_12a x_12c x_13 x_13t x_13a x_13c x_7B r14 r13 => [(4, (Value.pointer (some ⟨r1, 0, none⟩))), (8, (Value.pointer (some ⟨r3, 0, none⟩))), (9, (Value.pointer (some ⟨r4, 0, none⟩))), (10, (Value.pointer (some ⟨r13, 0, none⟩))), (11, (Value.pointer (some ⟨r14, 0, none⟩))), (12, (wE 120 err_1b err_1))]) (fun err_1b err_1 x_2 x_3 x_4 x_5 x_6 x_7 x_7a x_7c x_8 x_8a x_8c x_9 x_10 x_10a x_10c x_11 x_11a x_11c x_12 x_12a x_12c x_13 x_13t x_13a x_13c x_7B r14 r13 => Is (Is.xr14 (((((hF.f hq1).neg hq2).neg hq3).neg hq4).f hq5)) (err_1b, err_1, x_2, x_3, x_4, x_5, x_6, x_7, x_8, x_9, x_10, x_11, x_12, x_13) ∧ Je (B_1 ++ x_7B) Et 5 x_7a x_7c x_7 ∧ Je (B_1 ++ x_7B) Fq 4 x_8a x_8c x_8 ∧ Dw (B_1 ++ x_7B) eI 1 x_10a x_10 ∧ Dw (B_1 ++ x_7B) eB 1 x_11a x_11 ∧ Dw (B_1 ++ x_7B) eI 1 x_12a x_12 ∧ (Cx (B_1 ++ x_7B) Bu 8 DT x_13a x_13 x_13t ∧ x_13.length ≤ x_13c) ∧ x_10.length ≤ 1000 ∧ x_11.length ≤ 1000 ∧ x_12.length ≤ 1000 ∧ x_13.length ≤ 1000) ?_ ?_
 ·skip
  refine lC ?_
  refine AF2 ?_
  refine Fa (args := [_, _, _]) (Ad call41) func41 ntmps41 ?_
  refine Z2 ?_
  refine Ah Ag Vf (k := fun r5 hr5 => ?_)
  refine Ah Ag (Hi (l := [_, _, _, _, _, _, _, _, _, _, _, _])) (k := fun r6 hr6 => ?_)
  refine Ah Ag Wy (k := fun r7 hr7 => ?_)
  refine Ah Ag Ur (k := fun r8 hr8 => ?_)
  refine cV ?_
  refine Af (Ai cG) (k := ?_)
  refine Hx ?_
  refine lS ?_
  refine Z2 ?_
  refine lW ?_
  refine Au rfl (fun hq6 => ?_) (fun hq6 => ?_)
  ·refine Bg ?_
   refine lC ?_
   refine AF2 ?_
   refine Fa (args := [_, _, _]) (Ad call74) func74 ntmps74 ?_
   refine Z2 ?_
   refine Ah Ag Vf (k := fun r9 hr9 => ?_)
   refine Ah Ag (Hi (l := [_, _, _, _, _, _, _, _, _, _, _, _])) (k := fun r10 hr10 => ?_)
   refine Ah Ag Wy (k := fun r11 hr11 => ?_)
   refine Ah Ag Ur (k := fun r12 hr12 => ?_)
   refine cV ?_
   refine Af (Ai cH) (k := ?_)
   refine jR ?_
   refine Fu (Ad call92) (fun w1 hw1 => eM w1 (s := c.name)) (k := ?_)
   refine Rj ?_
   refine Ct rfl (fun hq7 => ?_) (fun hq7 => ?_)
   ·refine Bg ?_
    refine tK ?_
    refine Z56 ?_
    refine fI ?_
    refine AE8 ?_
    refine xL ?_
    refine fI ?_
    refine Jt ?_
    refine jP ?_
    refine Ah Ag Wy (k := fun r13 hr13 => ?_)
    refine Ah Ag Ur (k := fun r14 hr14 => ?_)
    refine fU ?_
    exact Fx true 152 0 0 ([] : Ap) 0 0 ([]) none 0 ([]) none 0 0 r.slots.gens a1_1 c1_1 r.slots.used a2_1 c2_1 r.slots.free a3_1 c3_1 r.l t4_1 a4_1 c4_1 ([]) r14 r13 ⟨(((Is.refl (Is.xr14 (((((hF.f hq1).neg hq2).neg hq3).neg hq4).f hq5))).pos hq6).t hq7), Je.nil, Je.nil, (Dw.mono hs1_1 sh), (Dw.mono hs2_1 sh), (Dw.mono hs3_1 sh), ⟨(hs4_1.1.mono sh), hs4_1.2⟩, z9, z9, z9, z9⟩ se pj
   refine Js ?_
   refine lA ?_
   refine Af (Ai cH) (k := ?_)
   refine AM4 ?_
   refine Ry ?_
   refine Sb ?_
   refine Jq ?_
   refine Z0 ?_
   refine Ct rfl (fun hq8 => ?_) (fun hq8 => ?_)
   ·have hfhq8 := Yp hq8
    have hxn : (((xN r c : Nat) : Int) = (Am (xR r) c.name).1 ∧ xN r c < r.l.length) ∧ (1 ≤ (xA r c).version ∧ (xA r c).version ≤ r.seq) := (fun h0 => ⟨h0, Nl tC h0.2⟩) (by have e1 : (Am (xR r) c.name).1.toNat = xN r c := rfl; have e2 : (xR r).l.length = r.l.length := rfl; omega)
    refine lA ?_
    refine yP ?_
    refine Z56 ?_
    refine fI ?_
    refine AE8 ?_
    refine xL ?_
    refine fI ?_
    refine Jt ?_
    refine jP ?_
    refine Ah Ag Wy (k := fun r15 hr15 => ?_)
    refine Ah Ag Ur (k := fun r16 hr16 => ?_)
    refine fU ?_
    exact Fx true 153 0 0 ([] : Ap) 0 0 ([]) none 0 ([]) none 0 0 r.slots.gens a1_1 c1_1 r.slots.used a2_1 c2_1 r.slots.free a3_1 c3_1 r.l t4_1 a4_1 c4_1 ([]) r16 r15 ⟨((((Is.refl (Is.xr14 (((((hF.f hq1).neg hq2).neg hq3).neg hq4).f hq5))).pos hq6).f hq7).t hq8), Je.nil, Je.nil, (Dw.mono hs1_1 sh), (Dw.mono hs2_1 sh), (Dw.mono hs3_1 sh), ⟨(hs4_1.1.mono sh), hs4_1.2⟩, z9, z9, z9, z9⟩ se pj
   refine Rr ?_
   refine fL ?_
   refine Gy (Ad call110) (fun w1 hw1 => D8 w1 (s := r.slots) (h_s_gens := (Dw.slj hs1_1) w1 hw1) (n_s_gens := by first | omega | (simp; done) | exact (hsm _ z2).1 | exact (hsm _ z2).2) (h_s_used := (Dw.slj hs2_1) w1 hw1) (n_s_used := by first | omega | (simp; done) | exact (hsm _ z2).1 | exact (hsm _ z2).2) (h_s_free := (Dw.slj hs3_1) w1 hw1) (n_s_free := by first | omega | (simp; done) | exact (hsm _ z2).1 | exact (hsm _ z2).2)) (k := ?_)
   rintro w1_2 e1_2 w2_2 hw1_2 ⟨a1_2, c1_2, a2_2, c2_2, a3_2, c3_2, B_2, he_2, hf_2, hs1_2, hs2_2, hs3_2, hl1_2, hl2_2, hl3_2⟩
   refine ⟨_, _, he_2, hw1_2.fresh hf_2, ?_⟩
   refine Cg ?_
   refine K1 ?_
   refine Ah Ag jB (k := fun r17 hr17 => ?_)
   refine Ah Ag (Dn (l := [_, _]) zeroValue42) (k := fun r18 hr18 => ?_)
   refine lD ?_
   refine Xc ?_
   refine Vy ?_
   refine Au rfl (fun hq9 => ?_) (fun hq9 => ?_)
   ·refine Bg ?_
    refine tK ?_
    refine Cg ?_
    refine Z56 ?_
    refine fI ?_
    refine Pi ?_
    refine Cj _ (sd (sd (sx (sk (sk (sd (sd (sk (sk (sk (sk (sa (sk (sk (sk (sk sz)))))))))))))))) ?_
    refine xL ?_
    refine fI ?_
    refine Jt ?_
    refine jP ?_
    refine Ah Ag Wy (k := fun r19 hr19 => ?_)
    refine Ah Ag Ur (k := fun r20 hr20 => ?_)
    refine fU ?_
    exact Fx true ((Ch r.slots).2.2) 0 0 ([] : Ap) 0 0 ([]) none 0 ([]) none 0 0 r.slots.gens a1_1 c1_1 r.slots.used a2_1 c2_1 r.slots.free a3_1 c3_1 r.l t4_1 a4_1 c4_1 ([]) r20 r19 ⟨(((((Is.refl (Is.xr14 (((((hF.f hq1).neg hq2).neg hq3).neg hq4).f hq5))).pos hq6).f hq7).f hq8).pos hq9), Je.nil, Je.nil, (Dw.mono hs1_1 sh), (Dw.mono hs2_1 sh), (Dw.mono hs3_1 sh), ⟨(hs4_1.1.mono sh), hs4_1.2⟩, z9, z9, z9, z9⟩ se pj
   refine Rr ?_
   refine Af (Ai sM) (k := ?_)
   refine jR ?_
   refine Cg ?_
   refine Af (Ai kP) (k := ?_)
   refine Hx ?_
   refine Gy (Ad call111) (fun w1 hw1 => sD w1 (l := ([])) (key := c.key) (now := now) (overlap := 0) (span := c.n) (h_l := (fun _ _ => Sl.nil) w1 hw1) (n_l := by first | omega | (simp; done) | exact (hsm _ z2).1 | exact (hsm _ z2).2) (hG := hG.ext hw1.ext_out) (hE := hE.ext hw1.ext_out)) (k := ?_)
   rintro w1_3 e1_3 w2_3 hw1_3 ⟨a1_3, c1_3, B1_3, he_3, hf_3, ho1_3, hl1_3⟩
   refine ⟨_, _, he_3, hw1_3.fresh hf_3, ?_⟩
   have hrot_68179 := rY ([]) c.key now 0 c.n
   refine Cg ?_
   refine K1 ?_
   refine xE ?_
   refine Xc ?_
   refine Vy ?_
   refine Au rfl (fun hq10 => ?_) (fun hq10 => ?_)
   ·refine Bg ?_
    refine tK ?_
    refine Cg ?_
    refine Z56 ?_
    refine fI ?_
    refine Pi ?_
    refine Cj _ (sx (sd (sd (sx (sk (sk (sd (sd (sk (sk (sk (sk (sa (sk (sk (sk (sk sz))))))))))))))))) ?_
    refine xL ?_
    refine fI ?_
    refine Jt ?_
    refine jP ?_
    refine Ah Ag Wy (k := fun r21 hr21 => ?_)
    refine Ah Ag Ur (k := fun r22 hr22 => ?_)
    refine fU ?_
    exact Fx true ((Fg ([]) c.key now 0 c.n).2.2) 0 0 ([] : Ap) 0 0 ([]) none 0 ([]) none 0 0 r.slots.gens a1_1 c1_1 r.slots.used a2_1 c2_1 r.slots.free a3_1 c3_1 r.l t4_1 a4_1 c4_1 ([]) r22 r21 ⟨((((((Is.refl (Is.xr14 (((((hF.f hq1).neg hq2).neg hq3).neg hq4).f hq5))).pos hq6).f hq7).f hq8).neg hq9).pos hq10), Je.nil, Je.nil, (Dw.mono hs1_1 sh), (Dw.mono hs2_1 sh), (Dw.mono hs3_1 sh), ⟨(hs4_1.1.mono sh), hs4_1.2⟩, z9, z9, z9, z9⟩ se pj
   refine Rr ?_
   refine uB ?_
   refine Af (Ai cH) (k := ?_)
   refine jR ?_
   refine Cg ?_
   refine yP ?_
   refine Ah Ag Ur (k := fun r23 hr23 => ?_)
   refine cY ?_
   refine Me ?_
   refine Fk _ (sk (sa (sd (sk (sa (sk (sk (sd (sk (sk (sk (sk (sk (sa (sk (sk (sk (sk sz)))))))))))))))))) ?_
   refine Cs ?_
   refine bI ?_
   refine Af (Ai Yn) (k := ?_)
   refine Gw (Bt (l' := [_, _, _, _, _]) sizeOf25) (k := ?_)
   refine Me ?_
   refine Fk _ (sk (sa (sd (sa (sk (sk (sk (sk (sk (sk (sk (sa (sk (sk (sk (sk sz)))))))))))))))) ?_
   refine Gv _ _ (vp ((qa (qc (qc q0))).trans (qa (qa (qc (qc q0))))) (nC (nC nE))) Da 7 [(true, 0), (true, 1), (true, 3), (false, 2), (false, 4), (false, 5), (true, 6)] z4 ?_
   refine mB ?_
   refine Aw Y0 (k := ?_)
   refine Aw Y0 (k := ?_)
   refine dL (Ad call51) (fun w1 hw1 => kR w1 (xs := r.l) (ts := t4_1) (x := (Aa.mk ((Ch r.slots).2.1) c.name 1 1 ([]) ((Fg ([]) c.key now 0 c.n).1) 0)) (v := (TA.mk none 0 a1_3 c1_3)) ((Cx.j hs4_1.1 sh).2 w1 hw1) Ri hs4_1.2) (k := ?_)
   rintro w1_5 e1_5 w2_5 hw1_5 ⟨a1_5, c1_5, B1_5, he_5, hf_5, ho1_5⟩
   refine ⟨_, _, _, he_5, hf_5, rfl, ?_⟩
   have hdp11 : Bs (B_1 ++ (B1_3 ++ [])) DT (Fp r.l (Aa.mk ((Ch r.slots).2.1) c.name 1 1 ([]) ((Fg ([]) c.key now 0 c.n).1) 0)) (Wq r.l t4_1 (Aa.mk ((Ch r.slots).2.1) c.name 1 1 ([]) ((Fg ([]) c.key now 0 c.n).1) 0) (TA.mk none 0 a1_3 c1_3)) := Bs.put ((Bs.of hs4_1.1).mono sh) (Bs.one (B := (B_1 ++ (B1_3 ++ []))) (D := DT) (fun w hw => ⟨Sl.nil, (ho1_3.sl Ed (Em hw)), Hb, ho1_3.le'⟩))
   have hpx_5 := Ni r.l (Aa.mk ((Ch r.slots).2.1) c.name 1 1 ([]) ((Fg ([]) c.key now 0 c.n).1) 0)
   refine mD (V' := ((r11, _) :: ((r12, _) :: []))) (Bt (l' := [_, _, _, _, _]) sizeOf28) (k := ?_)
   refine mD (V' := ((r11, _) :: ((r12, _) :: []))) (Bt (l' := [_, _, _, _, _, _, _, _]) sizeOf52) (k := ?_)
   refine Ov ?_
   refine cQ ?_
   refine Cj _ (sk (sk (sa (sd (sa (sa (sd (sk (sk (sk (sk (sa (sk (sk (sk (sk sz)))))))))))))))) ?_
   refine xL ?_
   refine fI ?_
   refine Jt ?_
   refine Cj _ (sd (sd (sa (sa (sa (sk (sk (sd (sd (sa (sk (sk (sk (sk sz)))))))))))))) ?_
   refine Z42 ?_
   refine K1 ?_
   refine Ah Ag Wy (k := fun r24 hr24 => ?_)
   refine Ah Ag Ur (k := fun r25 hr25 => ?_)
   refine O5 ?_
   refine Ci _ ((((((((((qa (qa (qc (qc (qc (qa (qa (qc (qa (qa (qa q0))))))))))).trans (qa (qa (qa (qc (qc (qc (qa (qa (qc (qa (qa q0)))))))))))).trans (qa (qa (qa (qa (qc (qc (qc (qa (qa (qc (qa q0)))))))))))).trans (qa (qa (qa (qa (qa (qc (qc (qc (qa (qa (qc q0)))))))))))).trans (qb (qb (qb (qb (qb (qb (qd (qd (qd (qb (qb q0)))))))))))).trans (qc (qa (qa (qa (qa (qa q0))))))).trans (qa (qc (qa (qa (qa (qa q0))))))).trans (qb (qb (qd (qb (qb (qb (qb q0)))))))).trans (qd (qb (qb (qd (qb (qb (qb (qb (qd q0)))))))))).trans (qd (qd (qb (qb (qd (qb (qb (qb (qb q0)))))))))) ?_
   refine AQ4 ?_
   exact Fx false 0 ((Ch r.slots).2.1.slot) ((Ch r.slots).2.1.gen) c.name 1 1 ([]) none 0 ((Fg ([]) c.key now 0 c.n).1) a1_3 c1_3 0 ((Ch r.slots).1.gens) a1_2 c1_2 ((Ch r.slots).1.used) a2_2 c2_2 ((Ch r.slots).1.free) a3_2 c3_2 (Fp r.l (Aa.mk ((Ch r.slots).2.1) c.name 1 1 ([]) ((Fg ([]) c.key now 0 c.n).1) 0)) (Wq r.l t4_1 (Aa.mk ((Ch r.slots).2.1) c.name 1 1 ([]) ((Fg ([]) c.key now 0 c.n).1) 0) (TA.mk none 0 a1_3 c1_3)) a1_5 c1_5 (B1_3 ++ (B_2 ++ B1_5)) r25 r24 ⟨((((((Is.refl (Is.xr14 (((((hF.f hq1).neg hq2).neg hq3).neg hq4).f hq5))).pos hq6).f hq7).f hq8).neg hq9).neg hq10), Je.nil, (fun w hw => ⟨ho1_3.sl Ed (Em hw), ho1_3.le'⟩), (Dw.mono hs1_2 sh), (Dw.mono hs2_2 sh), (Dw.mono hs3_2 sh), ⟨((Bi.nb (U := (B1_5 ++ (B_1 ++ (B1_3 ++ [])))) Av ho1_5 hdp11 (hB := sh) (hR := sh)).mono sh), (by have h0 := ho1_5.le'; rwa [Br hdp11.1] at h0)⟩, z9, z9, z9, z9⟩ se pj
  refine Z2 ?_
  refine lW ?_
  refine Au rfl (fun hq12 => ?_) (fun hq12 => ?_)
  ·refine Bg ?_
   refine tK ?_
   refine fI ?_
   refine Jt ?_
   refine Cj _ (sk (sk (sd (sd (sa (sk (sk (sk (sk sz))))))))) ?_
   refine Z42 ?_
   refine K1 ?_
   refine Ah Ag Wy (k := fun r26 hr26 => ?_)
   refine Ah Ag Ur (k := fun r27 hr27 => ?_)
   refine fU ?_
   exact Fx false 0 0 0 ([] : Ap) 0 0 ([]) none 0 ([]) none 0 0 r.slots.gens a1_1 c1_1 r.slots.used a2_1 c2_1 r.slots.free a3_1 c3_1 r.l t4_1 a4_1 c4_1 ([]) r27 r26 ⟨(((Is.refl (Is.xr14 (((((hF.f hq1).neg hq2).neg hq3).neg hq4).f hq5))).neg hq6).pos hq12), Je.nil, Je.nil, (Dw.mono hs1_1 sh), (Dw.mono hs2_1 sh), (Dw.mono hs3_1 sh), ⟨(hs4_1.1.mono sh), hs4_1.2⟩, z9, z9, z9, z9⟩ se pj
  refine Bq ?_
  refine Xb ?_
  refine lA ?_
  refine AF2 ?_
  refine Fa (args := [_, _, _]) (Ad call75) func75 ntmps75 ?_
  refine Z2 ?_
  refine Ah Ag Vf (k := fun r28 hr28 => ?_)
  refine Ah Ag (Hi (l := [_, _, _, _, _, _, _, _, _, _, _, _])) (k := fun r29 hr29 => ?_)
  refine Ah Ag Wy (k := fun r30 hr30 => ?_)
  refine Ah Ag Ur (k := fun r31 hr31 => ?_)
  refine Z1 ?_
  refine lA ?_
  refine Af (Ai cH) (k := ?_)
  refine AM4 ?_
  refine Ry ?_
  refine Sb ?_
  refine Xc ?_
  refine Rj ?_
  refine Ct rfl (fun hq13 => ?_) (fun hq13 => ?_)
  ·refine Bg ?_
   refine tK ?_
   refine Z56 ?_
   refine fI ?_
   refine AE8 ?_
   refine Z99 ?_
   refine fI ?_
   refine Z6 ?_
   refine jP ?_
   refine Ah Ag Wy (k := fun r32 hr32 => ?_)
   refine Ah Ag Ur (k := fun r33 hr33 => ?_)
   refine fU ?_
   exact Fx true 154 0 0 ([] : Ap) 0 0 ([]) none 0 ([]) none 0 0 r.slots.gens a1_1 c1_1 r.slots.used a2_1 c2_1 r.slots.free a3_1 c3_1 r.l t4_1 a4_1 c4_1 ([]) r33 r32 ⟨((((Is.refl (Is.xr14 (((((hF.f hq1).neg hq2).neg hq3).neg hq4).f hq5))).neg hq6).neg hq12).t hq13), Je.nil, Je.nil, (Dw.mono hs1_1 sh), (Dw.mono hs2_1 sh), (Dw.mono hs3_1 sh), ⟨(hs4_1.1.mono sh), hs4_1.2⟩, z9, z9, z9, z9⟩ se pj
  have hfhq13 := Yp (by simpa using hq13)
  have hxn : (((xN r c : Nat) : Int) = (Am (xR r) c.name).1 ∧ xN r c < r.l.length) ∧ (1 ≤ (xA r c).version ∧ (xA r c).version ≤ r.seq) := (fun h0 => ⟨h0, Nl tC h0.2⟩) (by have e1 : (Am (xR r) c.name).1.toNat = xN r c := rfl; have e2 : (xR r).l.length = r.l.length := rfl; omega)
  refine Js ?_
  refine Fi Da 13 [(true, 0), (true, 1), (true, 2), (true, 3), (true, 4), (true, 5), (true, 6), (true, 7), (true, 8), (true, 9), (true, 10), (false, 11), (true, 12)] z4 ?_
  refine lT ?_
  refine AC5 ?_
  refine O3 ?_
  refine Aw (Ef (cs := [_, _, _, _, _, _, _, _, _]) zeroValue88 F3) (k := ?_)
  refine Aw (Dq isAgg36 sizeOf36) (k := ?_)
  refine Gu ?_
  refine Aw (Ef (cs := [_, _, _, _, _, _, _, _, _, _, _, _, _, _, _, _, _, _, _, _, _, _]) zeroValue97 AA8) (k := ?_)
  refine Se Ag (Hi (l := [_, _, _, _, _, _, _, _, _, _, _, _, _, _, _, _, _, _, _, _, _, _])) (k := fun r34 hr34 => ?_)
  refine Z34 ?_
  refine Me ?_
  refine Bg ?_
  refine bX (σ1 := Bool) (fun x_19 => ((r34, oc [(vi ((xA r c).handle.slot)), (vi ((xA r c).handle.gen)), (vt ((xA r c).name)), (vi ((xA r c).state)), (vi ((xA r c).version)), (vs ((t4_1.getD (xN r c) default).ra) ((xA r c).rules.length) ((t4_1.getD (xN r c) default).rc)), (vs ((t4_1.getD (xN r c) default).ca) ((xA r c).creds.length) ((t4_1.getD (xN r c) default).cc)), (vi ((xA r c).deadline)), (vi (r.seq + 1)), (vi c.verb), (vt c.name), (vi c.want), (vi c.at_), (Value.bool c.rule.allow), (vi c.rule.pfx.addr), (vi c.rule.pfx.bits), (vi c.rule.prt.lo), (vi c.rule.prt.hi), (vt c.key), (vi c.n), (vi c.m), (vi now)] 97) :: ((r31, oc [(vi 0), (vi 0), (vt ([] : Ap)), (vi 0), (vi 0), (vs none 0 0), (vs none 0 0), (vi 0)] 52) :: ((r30, oc [(vs none 0 0), (vs none 0 0), (vs none 0 0), (vs none 0 0), (vi 0)] 28) :: ((r29, oc [(vi c.verb), (vt c.name), (vi c.want), (vi c.at_), (Value.bool c.rule.allow), (vi c.rule.pfx.addr), (vi c.rule.pfx.bits), (vi c.rule.prt.lo), (vi c.rule.prt.hi), (vt c.key), (vi c.n), (vi c.m)] 36) :: ((r28, oc [(vs a1_1 r.slots.gens.length c1_1), (vs a2_1 r.slots.used.length c2_1), (vs a3_1 r.slots.free.length c3_1), (vs a4_1 r.l.length c4_1), (vi (r.seq + 1))] 28) :: ((r8, oc [(vi 0), (vi 0), (vt ([] : Ap)), (vi 0), (vi 0), (vs none 0 0), (vs none 0 0), (vi 0)] 52) :: ((r7, oc [(vs none 0 0), (vs none 0 0), (vs none 0 0), (vs none 0 0), (vi 0)] 28) :: ((r6, oc [(vi c.verb), (vt c.name), (vi c.want), (vi c.at_), (Value.bool c.rule.allow), (vi c.rule.pfx.addr), (vi c.rule.pfx.bits), (vi c.rule.prt.lo), (vi c.rule.prt.hi), (vt c.key), (vi c.n), (vi c.m)] 36) :: ((r5, oc [(vs a1_1 r.slots.gens.length c1_1), (vs a2_1 r.slots.used.length c2_1), (vs a3_1 r.slots.free.length c3_1), (vs a4_1 r.l.length c4_1), (vi (r.seq + 1))] 28) :: (B_1 ++ ((r4, oc [(vi 0), (vi 0), (vi 0), (vi 0), (vi 0), (vi 0)] 44) :: ((r3, oc [(vs none 0 0), (vs none 0 0), (vs none 0 0), (vs none 0 0), (vi 0)] 28) :: ((r2, oc [(vi c.verb), (vt c.name), (vi c.want), (vi c.at_), (Value.bool c.rule.allow), (vi c.rule.pfx.addr), (vi c.rule.pfx.bits), (vi c.rule.prt.lo), (vi c.rule.prt.hi), (vt c.key), (vi c.n), (vi c.m)] 36) :: ((r1, oc [(vs a1_1 r.slots.gens.length c1_1), (vs a2_1 r.slots.used.length c2_1), (vs a3_1 r.slots.free.length c3_1), (vs a4_1 r.l.length c4_1), (vi (r.seq + 1))] 28) :: []))))))))))))))) (fun x_19 => [(3, (Value.pointer (some ⟨r28, 0, none⟩))), (4, (Value.pointer (some ⟨r29, 0, none⟩))), (6, (Value.pointer (some ⟨r30, 0, none⟩))), (7, (Value.pointer (some ⟨r31, 0, none⟩))), (8, Value.nilIface), (9, (vi ((Am (xR r) c.name).1))), (11, (Value.pointer (some ⟨r34, 0, none⟩))), (51, (Value.bool x_19))]) (fun x_19 => Is (Is.xr1 ((((Is.refl (Is.xr14 (((((hF.f hq1).neg hq2).neg hq3).neg hq4).f hq5))).neg hq6).neg hq12).f hq13)) x_19) ?_ ?_
  ·skip
   refine AQ5 ?_
   refine Aw (Ai sL) (k := ?_)
   refine Sc ?_
   refine Aw Lc (k := ?_)
   refine Gu ?_
   refine Fm 41 rfl (fun hq14 => ?_) (fun hq14 => ?_)
   rotate_left
   ·refine Bm 9 rfl ?_
    refine Aw Hy (k := ?_)
    refine Gb ?_
    refine Eh ?_
    exact Li false ((Is.refl (Is.xr1 ((((Is.refl (Is.xr14 (((((hF.f hq1).neg hq2).neg hq3).neg hq4).f hq5))).neg hq6).neg hq12).f hq13))).neg hq14) se (List.Perm.refl _)
   refine Bl (Ai sL) (k := ?_)
   refine bK ?_
   refine Mq ?_
   refine Bl Mv (k := ?_)
   refine Bl (Ai cI) (k := ?_)
   refine Bl (Ai Kx) (k := ?_)
   refine Bl (Ai Qv) (k := ?_)
   refine bK ?_
   refine Bl Lc (k := ?_)
   refine Aw Hh (k := ?_)
   refine Gb ?_
   refine Eh ?_
   exact Li (decide (c.want ≠ ((xA r c).version))) ((Is.refl (Is.xr1 ((((Is.refl (Is.xr14 (((((hF.f hq1).neg hq2).neg hq3).neg hq4).f hq5))).neg hq6).neg hq12).f hq13))).pos hq14) se (List.Perm.refl _)
  intro x_19 hJ20
  refine Ea ?_
  refine Ct rfl (fun hq15 => ?_) (fun hq15 => ?_)
  ·refine Bg ?_
   refine tK ?_
   refine Z56 ?_
   refine fI ?_
   refine Pi ?_
   refine Cj _ (sd (sk (sk (sd (sd (sk (sk (sk (sk (sa (sk (sk (sk (sk sz)))))))))))))) ?_
   refine Z99 ?_
   refine fI ?_
   refine Z6 ?_
   refine jP ?_
   refine Ah Ag Wy (k := fun r35 hr35 => ?_)
   refine Ah Ag Ur (k := fun r36 hr36 => ?_)
   refine fU ?_
   exact Fx true 155 0 0 ([] : Ap) 0 0 ([]) none 0 ([]) none 0 0 r.slots.gens a1_1 c1_1 r.slots.used a2_1 c2_1 r.slots.free a3_1 c3_1 r.l t4_1 a4_1 c4_1 ([]) r36 r35 ⟨((((((Is.refl (Is.xr14 (((((hF.f hq1).neg hq2).neg hq3).neg hq4).f hq5))).neg hq6).neg hq12).f hq13).rn1 hJ20).t hq15), Je.nil, Je.nil, (Dw.mono hs1_1 sh), (Dw.mono hs2_1 sh), (Dw.mono hs3_1 sh), ⟨(hs4_1.1.mono sh), hs4_1.2⟩, z9, z9, z9, z9⟩ se pj
  refine Js ?_
  refine Bg ?_
  refine zO (σ1 := Bool) (σ2 := Int) (σ3 := Int) (σ4 := List Bf) (σ5 := Option Addr) (σ6 := Nat) (σ7 := List Bw) (σ8 := Option Addr) (σ9 := Nat) (σ10 := Int) (σ11 := Aj) (fun err_21b err_21 x_22 x_23 x_23a x_23c x_24 x_24a x_24c x_25 x_23B => (x_23B ++ ((r34, oc [(vi ((xA r c).handle.slot)), (vi ((xA r c).handle.gen)), (vt ((xA r c).name)), (vi x_22), (vi ((xA r c).version)), (vs x_23a x_23.length x_23c), (vs x_24a x_24.length x_24c), (vi x_25), (vi (r.seq + 1)), (vi c.verb), (vt c.name), (vi c.want), (vi c.at_), (Value.bool c.rule.allow), (vi c.rule.pfx.addr), (vi c.rule.pfx.bits), (vi c.rule.prt.lo), (vi c.rule.prt.hi), (vt c.key), (vi c.n), (vi c.m), (vi now)] 97) :: ((r31, oc [(vi 0), (vi 0), (vt ([] : Ap)), (vi 0), (vi 0), (vs none 0 0), (vs none 0 0), (vi 0)] 52) :: ((r30, oc [(vs none 0 0), (vs none 0 0), (vs none 0 0), (vs none 0 0), (vi 0)] 28) :: ((r29, oc [(vi c.verb), (vt c.name), (vi c.want), (vi c.at_), (Value.bool c.rule.allow), (vi c.rule.pfx.addr), (vi c.rule.pfx.bits), (vi c.rule.prt.lo), (vi c.rule.prt.hi), (vt c.key), (vi c.n), (vi c.m)] 36) :: ((r28, oc [(vs a1_1 r.slots.gens.length c1_1), (vs a2_1 r.slots.used.length c2_1), (vs a3_1 r.slots.free.length c3_1), (vs a4_1 r.l.length c4_1), (vi (r.seq + 1))] 28) :: ((r8, oc [(vi 0), (vi 0), (vt ([] : Ap)), (vi 0), (vi 0), (vs none 0 0), (vs none 0 0), (vi 0)] 52) :: ((r7, oc [(vs none 0 0), (vs none 0 0), (vs none 0 0), (vs none 0 0), (vi 0)] 28) :: ((r6, oc [(vi c.verb), (vt c.name), (vi c.want), (vi c.at_), (Value.bool c.rule.allow), (vi c.rule.pfx.addr), (vi c.rule.pfx.bits), (vi c.rule.prt.lo), (vi c.rule.prt.hi), (vt c.key), (vi c.n), (vi c.m)] 36) :: ((r5, oc [(vs a1_1 r.slots.gens.length c1_1), (vs a2_1 r.slots.used.length c2_1), (vs a3_1 r.slots.free.length c3_1), (vs a4_1 r.l.length c4_1), (vi (r.seq + 1))] 28) :: (B_1 ++ ((r4, oc [(vi 0), (vi 0), (vi 0), (vi 0), (vi 0), (vi 0)] 44) :: ((r3, oc [(vs none 0 0), (vs none 0 0), (vs none 0 0), (vs none 0 0), (vi 0)] 28) :: ((r2, oc [(vi c.verb), (vt c.name), (vi c.want), (vi c.at_), (Value.bool c.rule.allow), (vi c.rule.pfx.addr), (vi c.rule.pfx.bits), (vi c.rule.prt.lo), (vi c.rule.prt.hi), (vt c.key), (vi c.n), (vi c.m)] 36) :: ((r1, oc [(vs a1_1 r.slots.gens.length c1_1), (vs a2_1 r.slots.used.length c2_1), (vs a3_1 r.slots.free.length c3_1), (vs a4_1 r.l.length c4_1), (vi (r.seq + 1))] 28) :: [])))))))))))))))) (fun err_21b err_21 x_22 x_23 x_23a x_23c x_24 x_24a x_24c x_25 x_23B => [(3, (Value.pointer (some ⟨r28, 0, none⟩))), (4, (Value.pointer (some ⟨r29, 0, none⟩))), (6, (Value.pointer (some ⟨r30, 0, none⟩))), (7, (Value.pointer (some ⟨r31, 0, none⟩))), (8, Value.nilIface), (9, (vi ((Am (xR r) c.name).1))), (11, (Value.pointer (some ⟨r34, 0, none⟩))), (12, (wE 120 err_21b err_21))]) (fun err_21b err_21 x_22 x_23 x_23a x_23c x_24 x_24a x_24c x_25 x_23B => Is (Is.xr6 ((((((Is.refl (Is.xr14 (((((hF.f hq1).neg hq2).neg hq3).neg hq4).f hq5))).neg hq6).neg hq12).f hq13).rn1 hJ20).f hq15)) (err_21b, err_21, x_22, x_23, x_24, x_25) ∧ Je (B_1 ++ x_23B) Et 5 x_23a x_23c x_23 ∧ Je (B_1 ++ x_23B) Fq 4 x_24a x_24c x_24) ?_ ?_
  ·skip
   refine Gv _ _ (vp (List.Perm.refl _) (nC nE)) Da 7 [(true, 1), (true, 2), (true, 4), (false, 0), (true, 3), (false, 5), (true, 6)] z4 ?_
   refine Aw (Ai cG) (k := ?_)
   refine Sc ?_
   refine Gu ?_
   refine Sm (args := []) (Ad call112) func112 ntmps112 ?_
   refine cR ?_
   refine Ah Ag hO (k := fun r37 hr37 => ?_)
   refine Sq (ml := ([] : List (Int × Value))) 2 Fs runUnderlying162 runUnderlying3 (Mz.nil (enc := fun x : Int => vi x)) Hb q0 (k := fun em57 km57 hms57 => ?_)
   refine Sq (ml := ([(2, (Value.func (.func 50) [].toArray [].toArray))] : List (Int × Value))) 3 Fs runUnderlying162 runUnderlying3 hms57 Hb q0 (k := fun em58 km58 hms58 => ?_)
   refine Sq (ml := ([(2, (Value.func (.func 50) [].toArray [].toArray)), (3, (Value.func (.func 143) [].toArray [].toArray))] : List (Int × Value))) 4 Fs runUnderlying162 runUnderlying3 hms58 Hb q0 (k := fun em59 km59 hms59 => ?_)
   refine Sq (ml := ([(2, (Value.func (.func 50) [].toArray [].toArray)), (3, (Value.func (.func 143) [].toArray [].toArray)), (4, (Value.func (.func 144) [].toArray [].toArray))] : List (Int × Value))) 6 Fs runUnderlying162 runUnderlying3 hms59 Hb q0 (k := fun em60 km60 hms60 => ?_)
   refine Sq (ml := ([(2, (Value.func (.func 50) [].toArray [].toArray)), (3, (Value.func (.func 143) [].toArray [].toArray)), (4, (Value.func (.func 144) [].toArray [].toArray)), (6, (Value.func (.func 145) [].toArray [].toArray))] : List (Int × Value))) 7 Fs runUnderlying162 runUnderlying3 hms60 Hb q0 (k := fun em61 km61 hms61 => ?_)
   refine Sq (ml := ([(2, (Value.func (.func 50) [].toArray [].toArray)), (3, (Value.func (.func 143) [].toArray [].toArray)), (4, (Value.func (.func 144) [].toArray [].toArray)), (6, (Value.func (.func 145) [].toArray [].toArray)), (7, (Value.func (.func 146) [].toArray [].toArray))] : List (Int × Value))) 5 Fs runUnderlying162 runUnderlying3 hms61 Hb q0 (k := fun em62 km62 hms62 => ?_)
   refine Sq (ml := ([(2, (Value.func (.func 50) [].toArray [].toArray)), (3, (Value.func (.func 143) [].toArray [].toArray)), (4, (Value.func (.func 144) [].toArray [].toArray)), (6, (Value.func (.func 145) [].toArray [].toArray)), (7, (Value.func (.func 146) [].toArray [].toArray)), (5, (Value.func (.func 147) [].toArray [].toArray))] : List (Int × Value))) 8 Fs runUnderlying162 runUnderlying3 hms62 Hb q0 (k := fun em63 km63 hms63 => ?_)
   refine Sq (ml := ([(2, (Value.func (.func 50) [].toArray [].toArray)), (3, (Value.func (.func 143) [].toArray [].toArray)), (4, (Value.func (.func 144) [].toArray [].toArray)), (6, (Value.func (.func 145) [].toArray [].toArray)), (7, (Value.func (.func 146) [].toArray [].toArray)), (5, (Value.func (.func 147) [].toArray [].toArray)), (8, (Value.func (.func 147) [].toArray [].toArray))] : List (Int × Value))) 10 Fs runUnderlying162 runUnderlying3 hms63 Hb q0 (k := fun em64 km64 hms64 => ?_)
   refine Cg ?_
   refine Z6 ?_
   refine Gg _ _ results112 z1 (vp (((((((((((((((qa (qa (qa (qa (qa (qa (qa (qa (qa (qa (qc (qa (qa (qa q0)))))))))))))).trans (qa (qa (qa (qa (qa (qa (qa (qa (qa (qa (qa (qc (qa (qa q0))))))))))))))).trans (qa (qa (qa (qa (qa (qa (qa (qa (qa (qa (qa (qa (qc (qa q0))))))))))))))).trans (qa (qa (qa (qa (qa (qa (qa (qa (qa (qa (qa (qa (qa (qc q0))))))))))))))).trans (qb (qb (qb (qb (qb (qb (qb (qb (qb (qb (qb (qb (qb (qb q0))))))))))))))).trans (qc (qa (qa (qa (qa (qa (qa (qa (qa (qa (qa (qa (qa (qa q0))))))))))))))).trans (qa (qc (qa (qa (qa (qa (qa (qa (qa (qa (qa (qa (qa (qa q0))))))))))))))).trans (qa (qa (qc (qa (qa (qa (qa (qa (qa (qa (qa (qa (qa (qa q0))))))))))))))).trans (qa (qa (qa (qc (qa (qa (qa (qa (qa (qa (qa (qa (qa (qa q0))))))))))))))).trans (qa (qa (qa (qa (qc (qa (qa (qa (qa (qa (qa (qa (qa (qa q0))))))))))))))).trans (qa (qa (qa (qa (qa (qc (qa (qa (qa (qa (qa (qa (qa (qa q0))))))))))))))).trans (qa (qa (qa (qa (qa (qa (qc (qa (qa (qa (qa (qa (qa (qa q0))))))))))))))).trans (qa (qa (qa (qa (qa (qa (qa (qc (qa (qa (qa (qa (qa (qa q0))))))))))))))).trans (qa (qa (qa (qa (qa (qa (qa (qa (qc (qa (qa (qa (qa q0)))))))))))))).trans (qa (qa (qa (qa (qa (qa (qa (qa (qa (qc (qa (qa (qa (qa q0))))))))))))))) (nC nE)) (List.Sublist.cons _ Ou) ?_
   by_cases hq16 : c.verb = 2
   ·refine Aw (Oc (l := ([(2, (Value.func (.func 50) [].toArray [].toArray)), (3, (Value.func (.func 143) [].toArray [].toArray)), (4, (Value.func (.func 144) [].toArray [].toArray)), (6, (Value.func (.func 145) [].toArray [].toArray)), (7, (Value.func (.func 146) [].toArray [].toArray)), (5, (Value.func (.func 147) [].toArray [].toArray)), (8, (Value.func (.func 147) [].toArray [].toArray)), (10, (Value.func (.func 147) [].toArray [].toArray))] : List (Int × Value))) (v := (Value.func (.func 50) [].toArray [].toArray)) c.verb Fs runUnderlying162 runUnderlying3 zeroValue161 hms64 (by rw [(Jg hq16.symm)]; rfl)) (k := ?_)
    refine Sm (args := [_]) (Ad call50) func50 ntmps50 ?_
    refine Ut ?_
    refine Pk ?_
    refine Ns ?_
    refine oR ?_
    refine Af Lc (k := ?_)
    refine N2 ?_
    refine Ze ?_
    refine Au rfl (fun hq17 => ?_) (fun hq17 => ?_)
    ·refine Bg ?_
     refine Cs ?_
     refine fX ?_
     refine tQ ?_
     refine Gg _ _ results50 z1 (vp (List.Perm.refl _) (nC nE)) Ou ?_
     refine Ov ?_
     refine bH ?_
     exact Dy true 156 ((xA r c).state) ((xA r c).rules) ((t4_1.getD (xN r c) default).ra) ((t4_1.getD (xN r c) default).rc) ((xA r c).creds) ((t4_1.getD (xN r c) default).ca) ((t4_1.getD (xN r c) default).cc) ((xA r c).deadline) ([]) ⟨(((Is.refl (Is.xr6 ((((((Is.refl (Is.xr14 (((((hF.f hq1).neg hq2).neg hq3).neg hq4).f hq5))).neg hq6).neg hq12).f hq13).rn1 hJ20).f hq15))).pos hq16).pos hq17), (fun w hw => ⟨(hs4_1.1.at (m := ((Am (xR r) c.name).1).toNat) z3 w (Em hw)).1, (hs4_1.1.at (m := ((Am (xR r) c.name).1).toNat) z3 w (Em hw)).2.2.1⟩), (fun w hw => ⟨(hs4_1.1.at (m := ((Am (xR r) c.name).1).toNat) z3 w (Em hw)).2.1, (hs4_1.1.at (m := ((Am (xR r) c.name).1).toNat) z3 w (Em hw)).2.2.2⟩)⟩ se pj
    refine aY ?_
    refine Pk ?_
    refine Cg ?_
    refine Ns ?_
    refine M1 ?_
    refine Ns ?_
    refine xM ?_
    refine Z0 ?_
    refine Vw ?_
    refine tQ ?_
    refine Gg _ _ results50 z1 (vp (List.Perm.refl _) (nC nE)) Ou ?_
    refine Ov ?_
    refine bH ?_
    exact Dy false 0 2 ((xA r c).rules) ((t4_1.getD (xN r c) default).ra) ((t4_1.getD (xN r c) default).rc) ((xA r c).creds) ((t4_1.getD (xN r c) default).ca) ((t4_1.getD (xN r c) default).cc) 0 ([]) ⟨(((Is.refl (Is.xr6 ((((((Is.refl (Is.xr14 (((((hF.f hq1).neg hq2).neg hq3).neg hq4).f hq5))).neg hq6).neg hq12).f hq13).rn1 hJ20).f hq15))).pos hq16).neg hq17), (fun w hw => ⟨(hs4_1.1.at (m := ((Am (xR r) c.name).1).toNat) z3 w (Em hw)).1, (hs4_1.1.at (m := ((Am (xR r) c.name).1).toNat) z3 w (Em hw)).2.2.1⟩), (fun w hw => ⟨(hs4_1.1.at (m := ((Am (xR r) c.name).1).toNat) z3 w (Em hw)).2.1, (hs4_1.1.at (m := ((Am (xR r) c.name).1).toNat) z3 w (Em hw)).2.2.2⟩)⟩ se pj
   by_cases hq18 : c.verb = 3
   ·refine Aw (Oc (l := ([(2, (Value.func (.func 50) [].toArray [].toArray)), (3, (Value.func (.func 143) [].toArray [].toArray)), (4, (Value.func (.func 144) [].toArray [].toArray)), (6, (Value.func (.func 145) [].toArray [].toArray)), (7, (Value.func (.func 146) [].toArray [].toArray)), (5, (Value.func (.func 147) [].toArray [].toArray)), (8, (Value.func (.func 147) [].toArray [].toArray)), (10, (Value.func (.func 147) [].toArray [].toArray))] : List (Int × Value))) (v := (Value.func (.func 143) [].toArray [].toArray)) c.verb Fs runUnderlying162 runUnderlying3 zeroValue161 hms64 (by rw [((Bx (fun e => hq16 e.symm)).trans (Jg hq18.symm))]; rfl)) (k := ?_)
    refine Sm (args := [_]) (Ad call143) func143 ntmps143 ?_
    refine Ut ?_
    refine Pk ?_
    refine Ns ?_
    refine oR ?_
    refine Zg ?_
    refine N2 ?_
    refine Ze ?_
    refine Au rfl (fun hq19 => ?_) (fun hq19 => ?_)
    ·refine Bg ?_
     refine Cs ?_
     refine fX ?_
     refine tQ ?_
     refine Gg _ _ results143 z1 (vp (List.Perm.refl _) (nC nE)) Ou ?_
     refine Ov ?_
     refine bH ?_
     exact Dy true 156 ((xA r c).state) ((xA r c).rules) ((t4_1.getD (xN r c) default).ra) ((t4_1.getD (xN r c) default).rc) ((xA r c).creds) ((t4_1.getD (xN r c) default).ca) ((t4_1.getD (xN r c) default).cc) ((xA r c).deadline) ([]) ⟨((((Is.refl (Is.xr6 ((((((Is.refl (Is.xr14 (((((hF.f hq1).neg hq2).neg hq3).neg hq4).f hq5))).neg hq6).neg hq12).f hq13).rn1 hJ20).f hq15))).neg hq16).pos hq18).pos hq19), (fun w hw => ⟨(hs4_1.1.at (m := ((Am (xR r) c.name).1).toNat) z3 w (Em hw)).1, (hs4_1.1.at (m := ((Am (xR r) c.name).1).toNat) z3 w (Em hw)).2.2.1⟩), (fun w hw => ⟨(hs4_1.1.at (m := ((Am (xR r) c.name).1).toNat) z3 w (Em hw)).2.1, (hs4_1.1.at (m := ((Am (xR r) c.name).1).toNat) z3 w (Em hw)).2.2.2⟩)⟩ se pj
    refine aY ?_
    refine Pk ?_
    refine Cg ?_
    refine Ns ?_
    refine M1 ?_
    refine Ns ?_
    refine xM ?_
    refine Z0 ?_
    refine Vw ?_
    refine tQ ?_
    refine Gg _ _ results143 z1 (vp (List.Perm.refl _) (nC nE)) Ou ?_
    refine Ov ?_
    refine bH ?_
    exact Dy false 0 1 ((xA r c).rules) ((t4_1.getD (xN r c) default).ra) ((t4_1.getD (xN r c) default).rc) ((xA r c).creds) ((t4_1.getD (xN r c) default).ca) ((t4_1.getD (xN r c) default).cc) 0 ([]) ⟨((((Is.refl (Is.xr6 ((((((Is.refl (Is.xr14 (((((hF.f hq1).neg hq2).neg hq3).neg hq4).f hq5))).neg hq6).neg hq12).f hq13).rn1 hJ20).f hq15))).neg hq16).pos hq18).neg hq19), (fun w hw => ⟨(hs4_1.1.at (m := ((Am (xR r) c.name).1).toNat) z3 w (Em hw)).1, (hs4_1.1.at (m := ((Am (xR r) c.name).1).toNat) z3 w (Em hw)).2.2.1⟩), (fun w hw => ⟨(hs4_1.1.at (m := ((Am (xR r) c.name).1).toNat) z3 w (Em hw)).2.1, (hs4_1.1.at (m := ((Am (xR r) c.name).1).toNat) z3 w (Em hw)).2.2.2⟩)⟩ se pj
   by_cases hq20 : c.verb = 4
   ·refine Aw (Oc (l := ([(2, (Value.func (.func 50) [].toArray [].toArray)), (3, (Value.func (.func 143) [].toArray [].toArray)), (4, (Value.func (.func 144) [].toArray [].toArray)), (6, (Value.func (.func 145) [].toArray [].toArray)), (7, (Value.func (.func 146) [].toArray [].toArray)), (5, (Value.func (.func 147) [].toArray [].toArray)), (8, (Value.func (.func 147) [].toArray [].toArray)), (10, (Value.func (.func 147) [].toArray [].toArray))] : List (Int × Value))) (v := (Value.func (.func 144) [].toArray [].toArray)) c.verb Fs runUnderlying162 runUnderlying3 zeroValue161 hms64 (by rw [((Bx (fun e => hq16 e.symm)).trans ((Bx (fun e => hq18 e.symm)).trans (Jg hq20.symm)))]; rfl)) (k := ?_)
    refine Sm (args := [_]) (Ad call144) func144 ntmps144 ?_
    refine Z2 ?_
    refine Rw ?_
    refine Pk ?_
    refine Ns ?_
    refine oR ?_
    refine Zg ?_
    refine N2 ?_
    refine Ze ?_
    refine Au rfl (fun hq21 => ?_) (fun hq21 => ?_)
    ·refine Bg ?_
     refine Cs ?_
     refine fX ?_
     refine Cc results86 z1 ?_
     refine Jq ?_
     refine Af (Rl (u := (Value.iface 120 (Value.agg [(vi 156)].toArray))) (v := Value.nilIface) (b := true) (fun w => by kernel_rfl)) (k := ?_)
     refine Z0 ?_
     refine Ow rfl ?_
     refine Z4 ?_
     refine Pi ?_
     refine xO ?_
     refine bH ?_
     exact Dy true 156 ((xA r c).state) ((xA r c).rules) ((t4_1.getD (xN r c) default).ra) ((t4_1.getD (xN r c) default).rc) ((xA r c).creds) ((t4_1.getD (xN r c) default).ca) ((t4_1.getD (xN r c) default).cc) ((xA r c).deadline) ([]) ⟨(((((Is.refl (Is.xr6 ((((((Is.refl (Is.xr14 (((((hF.f hq1).neg hq2).neg hq3).neg hq4).f hq5))).neg hq6).neg hq12).f hq13).rn1 hJ20).f hq15))).neg hq16).neg hq18).pos hq20).pos hq21), (fun w hw => ⟨(hs4_1.1.at (m := ((Am (xR r) c.name).1).toNat) z3 w (Em hw)).1, (hs4_1.1.at (m := ((Am (xR r) c.name).1).toNat) z3 w (Em hw)).2.2.1⟩), (fun w hw => ⟨(hs4_1.1.at (m := ((Am (xR r) c.name).1).toNat) z3 w (Em hw)).2.1, (hs4_1.1.at (m := ((Am (xR r) c.name).1).toNat) z3 w (Em hw)).2.2.2⟩)⟩ se pj
    refine aY ?_
    refine Pk ?_
    refine Cg ?_
    refine Ns ?_
    refine M1 ?_
    refine Ns ?_
    refine xM ?_
    refine Z0 ?_
    refine Vw ?_
    refine Cc results86 z1 ?_
    refine Jq ?_
    refine AE4 ?_
    refine Gj rfl ?_
    refine aY ?_
    refine Z4 ?_
    refine Af Mv (k := ?_)
    refine Af (Ai Ul) (k := ?_)
    refine Af (Ai kP) (k := ?_)
    refine Hx ?_
    refine Xc ?_
    refine Rx ?_
    refine Ao 24 rfl (fun hq22 => ?_) (fun hq22 => ?_)
    ·refine Ae 2 rfl ?_
     refine Pj ?_
     refine Ae 7 rfl ?_
     refine Xe ?_
     refine fX ?_
     refine xO ?_
     refine bH ?_
     exact Dy true 2 3 ((xA r c).rules) ((t4_1.getD (xN r c) default).ra) ((t4_1.getD (xN r c) default).rc) ((xA r c).creds) ((t4_1.getD (xN r c) default).ca) ((t4_1.getD (xN r c) default).cc) 0 ([]) ⟨((((((Is.refl (Is.xr6 ((((((Is.refl (Is.xr14 (((((hF.f hq1).neg hq2).neg hq3).neg hq4).f hq5))).neg hq6).neg hq12).f hq13).rn1 hJ20).f hq15))).neg hq16).neg hq18).pos hq20).neg hq21).pos hq22), (fun w hw => ⟨(hs4_1.1.at (m := ((Am (xR r) c.name).1).toNat) z3 w (Em hw)).1, (hs4_1.1.at (m := ((Am (xR r) c.name).1).toNat) z3 w (Em hw)).2.2.1⟩), (fun w hw => ⟨(hs4_1.1.at (m := ((Am (xR r) c.name).1).toNat) z3 w (Em hw)).2.1, (hs4_1.1.at (m := ((Am (xR r) c.name).1).toNat) z3 w (Em hw)).2.2.2⟩)⟩ se pj
    refine lP ?_
    refine Rv ?_
    refine Ao 28 rfl (fun hq23 => ?_) (fun hq23 => ?_)
    ·refine Ae 7 rfl ?_
     refine Xe ?_
     refine fX ?_
     refine xO ?_
     refine bH ?_
     exact Dy true 2 3 ((xA r c).rules) ((t4_1.getD (xN r c) default).ra) ((t4_1.getD (xN r c) default).rc) ((xA r c).creds) ((t4_1.getD (xN r c) default).ca) ((t4_1.getD (xN r c) default).cc) 0 ([]) ⟨(((((((Is.refl (Is.xr6 ((((((Is.refl (Is.xr14 (((((hF.f hq1).neg hq2).neg hq3).neg hq4).f hq5))).neg hq6).neg hq12).f hq13).rn1 hJ20).f hq15))).neg hq16).neg hq18).pos hq20).neg hq21).neg hq22).pos hq23), (fun w hw => ⟨(hs4_1.1.at (m := ((Am (xR r) c.name).1).toNat) z3 w (Em hw)).1, (hs4_1.1.at (m := ((Am (xR r) c.name).1).toNat) z3 w (Em hw)).2.2.1⟩), (fun w hw => ⟨(hs4_1.1.at (m := ((Am (xR r) c.name).1).toNat) z3 w (Em hw)).2.1, (hs4_1.1.at (m := ((Am (xR r) c.name).1).toNat) z3 w (Em hw)).2.2.2⟩)⟩ se pj
    refine Hf ?_
    refine Bb Mv (k := ?_)
    refine Bb (Ai kQ) (k := ?_)
    refine Vz ?_
    refine Hf ?_
    refine Bb gV (k := ?_)
    refine Bb Lu (k := ?_)
    refine Qh ?_
    refine Au rfl (fun hq24 => ?_) (fun hq24 => ?_)
    ·refine Bg ?_
     refine Cs ?_
     refine fX ?_
     refine xO ?_
     refine bH ?_
     exact Dy true 2 3 ((xA r c).rules) ((t4_1.getD (xN r c) default).ra) ((t4_1.getD (xN r c) default).rc) ((xA r c).creds) ((t4_1.getD (xN r c) default).ca) ((t4_1.getD (xN r c) default).cc) 0 ([]) ⟨((((((((Is.refl (Is.xr6 ((((((Is.refl (Is.xr14 (((((hF.f hq1).neg hq2).neg hq3).neg hq4).f hq5))).neg hq6).neg hq12).f hq13).rn1 hJ20).f hq15))).neg hq16).neg hq18).pos hq20).neg hq21).neg hq22).neg hq23).pos hq24), (fun w hw => ⟨(hs4_1.1.at (m := ((Am (xR r) c.name).1).toNat) z3 w (Em hw)).1, (hs4_1.1.at (m := ((Am (xR r) c.name).1).toNat) z3 w (Em hw)).2.2.1⟩), (fun w hw => ⟨(hs4_1.1.at (m := ((Am (xR r) c.name).1).toNat) z3 w (Em hw)).2.1, (hs4_1.1.at (m := ((Am (xR r) c.name).1).toNat) z3 w (Em hw)).2.2.2⟩)⟩ se pj
    refine aY ?_
    refine Pk ?_
    refine Af Mv (k := ?_)
    refine Af (Ai kQ) (k := ?_)
    refine Hx ?_
    refine J8 ?_
    refine Ns ?_
    refine xM ?_
    refine Z0 ?_
    refine Vw ?_
    refine xO ?_
    refine bH ?_
    exact Dy false 0 3 ((xA r c).rules) ((t4_1.getD (xN r c) default).ra) ((t4_1.getD (xN r c) default).rc) ((xA r c).creds) ((t4_1.getD (xN r c) default).ca) ((t4_1.getD (xN r c) default).cc) (now + c.n) ([]) ⟨((((((((Is.refl (Is.xr6 ((((((Is.refl (Is.xr14 (((((hF.f hq1).neg hq2).neg hq3).neg hq4).f hq5))).neg hq6).neg hq12).f hq13).rn1 hJ20).f hq15))).neg hq16).neg hq18).pos hq20).neg hq21).neg hq22).neg hq23).neg hq24), (fun w hw => ⟨(hs4_1.1.at (m := ((Am (xR r) c.name).1).toNat) z3 w (Em hw)).1, (hs4_1.1.at (m := ((Am (xR r) c.name).1).toNat) z3 w (Em hw)).2.2.1⟩), (fun w hw => ⟨(hs4_1.1.at (m := ((Am (xR r) c.name).1).toNat) z3 w (Em hw)).2.1, (hs4_1.1.at (m := ((Am (xR r) c.name).1).toNat) z3 w (Em hw)).2.2.2⟩)⟩ se pj
   by_cases hq25 : c.verb = 6
   ·refine Aw (Oc (l := ([(2, (Value.func (.func 50) [].toArray [].toArray)), (3, (Value.func (.func 143) [].toArray [].toArray)), (4, (Value.func (.func 144) [].toArray [].toArray)), (6, (Value.func (.func 145) [].toArray [].toArray)), (7, (Value.func (.func 146) [].toArray [].toArray)), (5, (Value.func (.func 147) [].toArray [].toArray)), (8, (Value.func (.func 147) [].toArray [].toArray)), (10, (Value.func (.func 147) [].toArray [].toArray))] : List (Int × Value))) (v := (Value.func (.func 145) [].toArray [].toArray)) c.verb Fs runUnderlying162 runUnderlying3 zeroValue161 hms64 (by rw [((Bx (fun e => hq16 e.symm)).trans ((Bx (fun e => hq18 e.symm)).trans ((Bx (fun e => hq20 e.symm)).trans (Jg hq25.symm))))]; rfl)) (k := ?_)
    refine Sm (args := [_]) (Ad call145) func145 ntmps145 ?_
    refine Z2 ?_
    refine Rw ?_
    refine Fi Da 33 [(true, 0), (true, 1), (true, 2), (true, 3), (true, 4), (true, 5), (true, 6), (true, 7), (true, 8), (true, 9), (true, 10), (true, 11), (true, 12), (true, 13), (true, 14), (true, 15), (true, 16), (true, 17), (true, 18), (true, 19), (true, 20), (true, 21), (true, 22), (true, 23), (true, 24), (false, 25), (true, 26), (true, 27), (true, 28), (true, 29), (true, 30), (true, 31), (true, 32)] z4 ?_
    refine jG ?_
    refine AN1 ?_
    refine Aw (Ai Qw) (k := ?_)
    refine Aw (Bv isAgg50) (k := ?_)
    refine jG ?_
    refine Aw (Ai Ul) (k := ?_)
    refine Aw (Ai sM) (k := ?_)
    refine Aw (Bv isAgg9) (k := ?_)
    refine jG ?_
    refine Aw (Ai kQ) (k := ?_)
    refine Sc ?_
    refine jG ?_
    refine Aw (Ai Ul) (k := ?_)
    refine Aw (Ai kP) (k := ?_)
    refine Sc ?_
    refine jG ?_
    refine Aw (Ai Ul) (k := ?_)
    refine Aw (Ai W9) (k := ?_)
    refine Sc ?_
    refine dL (Ad call111) (fun w1 hw1 => sD w1 (l := ((xA r c).creds)) (key := c.key) (now := now) (overlap := c.n) (span := c.m) (h_l := (fun w hw => ((Cx.j hs4_1.1 sh).at (m := ((Am (xR r) c.name).1).toNat) z3 w hw).2.1) w1 hw1) (n_l := by first | omega | (simp; done) | exact (hsm _ z2).1 | exact (hsm _ z2).2) (hG := hG.ext hw1.ext_out) (hE := hE.ext hw1.ext_out)) (k := ?_)
    rintro w1_10 e1_10 w2_10 hw1_10 ⟨a1_10, c1_10, B1_10, he_10, hf_10, ho1_10, hl1_10⟩
    refine ⟨_, _, _, he_10, hf_10, rfl, ?_⟩
    have hrot_28119 := rY ((xA r c).creds) c.key now c.n c.m
    refine Gu ?_
    refine Aw Pu (k := ?_)
    refine Aw Pu (k := ?_)
    refine Aw Pu (k := ?_)
    refine Aw Fj (k := ?_)
    refine Aw Fj (k := ?_)
    refine Z34 ?_
    refine Z0 ?_
    refine Pk ?_
    refine Ns ?_
    refine Af (Ai Qw) (k := ?_)
    refine Gw (Bt (l' := [_, _, _, _, _, _, _, _, _, _, _, _, _, _, _, _, _, _, _, _, _, _]) sizeOf50) (k := ?_)
    refine Pm ?_
    refine AE9 ?_
    refine Vy ?_
    refine Au rfl (fun hq26 => ?_) (fun hq26 => ?_)
    rotate_left
    ·refine Bq ?_
     refine Ea ?_
     refine Vw ?_
     refine xZ ?_
     refine Z61 ?_
     refine Oz ?_
     refine lH ?_
     refine Z5 ?_
     exact Dy false 0 ((xA r c).state) ((xA r c).rules) ((t4_1.getD (xN r c) default).ra) ((t4_1.getD (xN r c) default).rc) ((Fg ((xA r c).creds) c.key now c.n c.m).1) a1_10 c1_10 ((xA r c).deadline) B1_10 ⟨((((((Is.refl (Is.xr6 ((((((Is.refl (Is.xr14 (((((hF.f hq1).neg hq2).neg hq3).neg hq4).f hq5))).neg hq6).neg hq12).f hq13).rn1 hJ20).f hq15))).neg hq16).neg hq18).neg hq20).pos hq25).neg hq26), (fun w hw => ⟨(hs4_1.1.at (m := ((Am (xR r) c.name).1).toNat) z3 w (Em hw)).1, (hs4_1.1.at (m := ((Am (xR r) c.name).1).toNat) z3 w (Em hw)).2.2.1⟩), (fun w hw => ⟨ho1_10.sl Ed (Em hw), ho1_10.le'⟩)⟩ se pj
    refine Z4 ?_
    refine fX ?_
    refine xZ ?_
    refine Z61 ?_
    refine Oz ?_
    refine lH ?_
    refine Z5 ?_
    exact Dy true ((Fg ((xA r c).creds) c.key now c.n c.m).2.2) ((xA r c).state) ((xA r c).rules) ((t4_1.getD (xN r c) default).ra) ((t4_1.getD (xN r c) default).rc) ((Fg ((xA r c).creds) c.key now c.n c.m).1) a1_10 c1_10 ((xA r c).deadline) B1_10 ⟨((((((Is.refl (Is.xr6 ((((((Is.refl (Is.xr14 (((((hF.f hq1).neg hq2).neg hq3).neg hq4).f hq5))).neg hq6).neg hq12).f hq13).rn1 hJ20).f hq15))).neg hq16).neg hq18).neg hq20).pos hq25).pos hq26), (fun w hw => ⟨(hs4_1.1.at (m := ((Am (xR r) c.name).1).toNat) z3 w (Em hw)).1, (hs4_1.1.at (m := ((Am (xR r) c.name).1).toNat) z3 w (Em hw)).2.2.1⟩), (fun w hw => ⟨ho1_10.sl Ed (Em hw), ho1_10.le'⟩)⟩ se pj
   by_cases hq27 : c.verb = 7
   rotate_left
   ·by_cases hq31 : c.verb = 5
    ·refine Aw (Oc (l := ([(2, (Value.func (.func 50) [].toArray [].toArray)), (3, (Value.func (.func 143) [].toArray [].toArray)), (4, (Value.func (.func 144) [].toArray [].toArray)), (6, (Value.func (.func 145) [].toArray [].toArray)), (7, (Value.func (.func 146) [].toArray [].toArray)), (5, (Value.func (.func 147) [].toArray [].toArray)), (8, (Value.func (.func 147) [].toArray [].toArray)), (10, (Value.func (.func 147) [].toArray [].toArray))] : List (Int × Value))) (v := (Value.func (.func 147) [].toArray [].toArray)) c.verb Fs runUnderlying162 runUnderlying3 zeroValue161 hms64 (by rw [((Bx (fun e => hq16 e.symm)).trans ((Bx (fun e => hq18 e.symm)).trans ((Bx (fun e => hq20 e.symm)).trans ((Bx (fun e => hq25 e.symm)).trans ((Bx (fun e => hq27 e.symm)).trans (Jg hq31.symm))))))]; rfl)) (k := ?_)
     refine AF0 ?_
     refine AE2 ?_
     refine Ov ?_
     refine bH ?_
     exact Dy false 0 ((xA r c).state) ((xA r c).rules) ((t4_1.getD (xN r c) default).ra) ((t4_1.getD (xN r c) default).rc) ((xA r c).creds) ((t4_1.getD (xN r c) default).ca) ((t4_1.getD (xN r c) default).cc) ((xA r c).deadline) ([]) ⟨(((((((Is.refl (Is.xr6 ((((((Is.refl (Is.xr14 (((((hF.f hq1).neg hq2).neg hq3).neg hq4).f hq5))).neg hq6).neg hq12).f hq13).rn1 hJ20).f hq15))).neg hq16).neg hq18).neg hq20).neg hq25).neg hq27).pos hq31), (fun w hw => ⟨(hs4_1.1.at (m := ((Am (xR r) c.name).1).toNat) z3 w (Em hw)).1, (hs4_1.1.at (m := ((Am (xR r) c.name).1).toNat) z3 w (Em hw)).2.2.1⟩), (fun w hw => ⟨(hs4_1.1.at (m := ((Am (xR r) c.name).1).toNat) z3 w (Em hw)).2.1, (hs4_1.1.at (m := ((Am (xR r) c.name).1).toNat) z3 w (Em hw)).2.2.2⟩)⟩ se pj
    by_cases hq32 : c.verb = 8
    ·refine Aw (Oc (l := ([(2, (Value.func (.func 50) [].toArray [].toArray)), (3, (Value.func (.func 143) [].toArray [].toArray)), (4, (Value.func (.func 144) [].toArray [].toArray)), (6, (Value.func (.func 145) [].toArray [].toArray)), (7, (Value.func (.func 146) [].toArray [].toArray)), (5, (Value.func (.func 147) [].toArray [].toArray)), (8, (Value.func (.func 147) [].toArray [].toArray)), (10, (Value.func (.func 147) [].toArray [].toArray))] : List (Int × Value))) (v := (Value.func (.func 147) [].toArray [].toArray)) c.verb Fs runUnderlying162 runUnderlying3 zeroValue161 hms64 (by rw [((Bx (fun e => hq16 e.symm)).trans ((Bx (fun e => hq18 e.symm)).trans ((Bx (fun e => hq20 e.symm)).trans ((Bx (fun e => hq25 e.symm)).trans ((Bx (fun e => hq27 e.symm)).trans ((Bx (fun e => hq31 e.symm)).trans (Jg hq32.symm)))))))]; rfl)) (k := ?_)
     refine AF0 ?_
     refine AE2 ?_
     refine Ov ?_
     refine bH ?_
     exact Dy false 0 ((xA r c).state) ((xA r c).rules) ((t4_1.getD (xN r c) default).ra) ((t4_1.getD (xN r c) default).rc) ((xA r c).creds) ((t4_1.getD (xN r c) default).ca) ((t4_1.getD (xN r c) default).cc) ((xA r c).deadline) ([]) ⟨((((((((Is.refl (Is.xr6 ((((((Is.refl (Is.xr14 (((((hF.f hq1).neg hq2).neg hq3).neg hq4).f hq5))).neg hq6).neg hq12).f hq13).rn1 hJ20).f hq15))).neg hq16).neg hq18).neg hq20).neg hq25).neg hq27).neg hq31).pos hq32), (fun w hw => ⟨(hs4_1.1.at (m := ((Am (xR r) c.name).1).toNat) z3 w (Em hw)).1, (hs4_1.1.at (m := ((Am (xR r) c.name).1).toNat) z3 w (Em hw)).2.2.1⟩), (fun w hw => ⟨(hs4_1.1.at (m := ((Am (xR r) c.name).1).toNat) z3 w (Em hw)).2.1, (hs4_1.1.at (m := ((Am (xR r) c.name).1).toNat) z3 w (Em hw)).2.2.2⟩)⟩ se pj
    by_cases hq33 : c.verb = 10
    rotate_left
    ·exfalso
     omega
    refine Aw (Oc (l := ([(2, (Value.func (.func 50) [].toArray [].toArray)), (3, (Value.func (.func 143) [].toArray [].toArray)), (4, (Value.func (.func 144) [].toArray [].toArray)), (6, (Value.func (.func 145) [].toArray [].toArray)), (7, (Value.func (.func 146) [].toArray [].toArray)), (5, (Value.func (.func 147) [].toArray [].toArray)), (8, (Value.func (.func 147) [].toArray [].toArray)), (10, (Value.func (.func 147) [].toArray [].toArray))] : List (Int × Value))) (v := (Value.func (.func 147) [].toArray [].toArray)) c.verb Fs runUnderlying162 runUnderlying3 zeroValue161 hms64 (by rw [((Bx (fun e => hq16 e.symm)).trans ((Bx (fun e => hq18 e.symm)).trans ((Bx (fun e => hq20 e.symm)).trans ((Bx (fun e => hq25 e.symm)).trans ((Bx (fun e => hq27 e.symm)).trans ((Bx (fun e => hq31 e.symm)).trans ((Bx (fun e => hq32 e.symm)).trans (Jg hq33.symm))))))))]; rfl)) (k := ?_)
    refine AF0 ?_
    refine AE2 ?_
    refine Ov ?_
    refine bH ?_
    exact Dy false 0 ((xA r c).state) ((xA r c).rules) ((t4_1.getD (xN r c) default).ra) ((t4_1.getD (xN r c) default).rc) ((xA r c).creds) ((t4_1.getD (xN r c) default).ca) ((t4_1.getD (xN r c) default).cc) ((xA r c).deadline) ([]) ⟨(((((((((Is.refl (Is.xr6 ((((((Is.refl (Is.xr14 (((((hF.f hq1).neg hq2).neg hq3).neg hq4).f hq5))).neg hq6).neg hq12).f hq13).rn1 hJ20).f hq15))).neg hq16).neg hq18).neg hq20).neg hq25).neg hq27).neg hq31).neg hq32).pos hq33), (fun w hw => ⟨(hs4_1.1.at (m := ((Am (xR r) c.name).1).toNat) z3 w (Em hw)).1, (hs4_1.1.at (m := ((Am (xR r) c.name).1).toNat) z3 w (Em hw)).2.2.1⟩), (fun w hw => ⟨(hs4_1.1.at (m := ((Am (xR r) c.name).1).toNat) z3 w (Em hw)).2.1, (hs4_1.1.at (m := ((Am (xR r) c.name).1).toNat) z3 w (Em hw)).2.2.2⟩)⟩ se pj
   refine Aw (Oc (l := ([(2, (Value.func (.func 50) [].toArray [].toArray)), (3, (Value.func (.func 143) [].toArray [].toArray)), (4, (Value.func (.func 144) [].toArray [].toArray)), (6, (Value.func (.func 145) [].toArray [].toArray)), (7, (Value.func (.func 146) [].toArray [].toArray)), (5, (Value.func (.func 147) [].toArray [].toArray)), (8, (Value.func (.func 147) [].toArray [].toArray)), (10, (Value.func (.func 147) [].toArray [].toArray))] : List (Int × Value))) (v := (Value.func (.func 146) [].toArray [].toArray)) c.verb Fs runUnderlying162 runUnderlying3 zeroValue161 hms64 (by rw [((Bx (fun e => hq16 e.symm)).trans ((Bx (fun e => hq18 e.symm)).trans ((Bx (fun e => hq20 e.symm)).trans ((Bx (fun e => hq25 e.symm)).trans (Jg hq27.symm)))))]; rfl)) (k := ?_)
   refine Sm (args := [_]) (Ad call146) func146 ntmps146 ?_
   refine Ut ?_
   refine Ig ?_
   refine Af Mv (k := ?_)
   refine Af (Ai Ul) (k := ?_)
   refine Af (Ai W7) (k := ?_)
   refine Hx ?_
   refine Jq ?_
   refine Af Ki (k := ?_)
   refine Z0 ?_
   refine Au rfl (fun hq28 => ?_) (fun hq28 => ?_)
   rotate_left
   ·refine Y5 ?_
    refine K9 ?_
    refine Ns ?_
    refine O1 ?_
    refine J8 ?_
    refine Af AH3 (k := ?_)
    refine Gy (Ad call162) (fun w1 hw1 => kN w1 (l := ((xA r c).rules)) (at_ := (IntKind.wrap .i64 (0 - (c.at_ + 1)))) (h_l := (fun w hw => ((Cx.j hs4_1.1 sh).at (m := ((Am (xR r) c.name).1).toNat) z3 w hw).1) w1 hw1) (n_l := by first | omega | (simp; done) | exact (hsm _ z2).1 | exact (hsm _ z2).2) (hG := hG.ext hw1.ext_out) (hE := hE.ext hw1.ext_out)) (k := ?_)
    rintro w1_13 e1_13 w2_13 hw1_13 ⟨a1_13, c1_13, B1_13, he_13, hf_13, ho1_13, hl1_13⟩
    refine ⟨_, _, he_13, hw1_13.fresh hf_13, ?_⟩
    refine Ry ?_
    refine Ns ?_
    refine Af (Ai Oo) (k := ?_)
    refine Gw (Bt (l' := [_, _, _, _, _, _, _, _, _, _, _, _, _, _, _, _, _, _, _, _, _, _]) sizeOf49) (k := ?_)
    refine Jq ?_
    refine AE9 ?_
    refine Vy ?_
    refine Au rfl (fun hq30 => ?_) (fun hq30 => ?_)
    rotate_left
    ·refine Bq ?_
     refine Ea ?_
     refine Vw ?_
     refine xZ ?_
     refine Z62 ?_
     refine Oz ?_
     refine lH ?_
     refine Z5 ?_
     exact Dy false 0 ((xA r c).state) ((Dk ((xA r c).rules) (IntKind.wrap .i64 (0 - (c.at_ + 1)))).1) a1_13 c1_13 ((xA r c).creds) ((t4_1.getD (xN r c) default).ca) ((t4_1.getD (xN r c) default).cc) ((xA r c).deadline) B1_13 ⟨((((((((Is.refl (Is.xr6 ((((((Is.refl (Is.xr14 (((((hF.f hq1).neg hq2).neg hq3).neg hq4).f hq5))).neg hq6).neg hq12).f hq13).rn1 hJ20).f hq15))).neg hq16).neg hq18).neg hq20).neg hq25).pos hq27).neg hq28).neg hq30), (fun w hw => ⟨ho1_13.sl Ck (Em hw), ho1_13.le'⟩), (fun w hw => ⟨(hs4_1.1.at (m := ((Am (xR r) c.name).1).toNat) z3 w (Em hw)).2.1, (hs4_1.1.at (m := ((Am (xR r) c.name).1).toNat) z3 w (Em hw)).2.2.2⟩)⟩ se pj
    refine Z4 ?_
    refine fX ?_
    refine xZ ?_
    refine Z62 ?_
    refine Oz ?_
    refine lH ?_
    refine Z5 ?_
    exact Dy true ((Dk ((xA r c).rules) (IntKind.wrap .i64 (0 - (c.at_ + 1)))).2) ((xA r c).state) ((Dk ((xA r c).rules) (IntKind.wrap .i64 (0 - (c.at_ + 1)))).1) a1_13 c1_13 ((xA r c).creds) ((t4_1.getD (xN r c) default).ca) ((t4_1.getD (xN r c) default).cc) ((xA r c).deadline) B1_13 ⟨((((((((Is.refl (Is.xr6 ((((((Is.refl (Is.xr14 (((((hF.f hq1).neg hq2).neg hq3).neg hq4).f hq5))).neg hq6).neg hq12).f hq13).rn1 hJ20).f hq15))).neg hq16).neg hq18).neg hq20).neg hq25).pos hq27).neg hq28).pos hq30), (fun w hw => ⟨ho1_13.sl Ck (Em hw), ho1_13.le'⟩), (fun w hw => ⟨(hs4_1.1.at (m := ((Am (xR r) c.name).1).toNat) z3 w (Em hw)).2.1, (hs4_1.1.at (m := ((Am (xR r) c.name).1).toNat) z3 w (Em hw)).2.2.2⟩)⟩ se pj
   refine rU _ _ [((⟨r34, 13, none⟩ : Addr), (Value.bool c.rule.allow)), ((⟨r34, 14, none⟩ : Addr), (vi c.rule.pfx.addr)), ((⟨r34, 15, none⟩ : Addr), (vi c.rule.pfx.bits)), ((⟨r34, 16, none⟩ : Addr), (vi c.rule.prt.lo)), ((⟨r34, 17, none⟩ : Addr), (vi c.rule.prt.hi))] (vp (List.Perm.refl _) (nC nE)) (by repeat (first | exact KC.nil | refine KC.cons z44 rfl ?_)) Da 23 [(true, 0), (true, 1), (true, 2), (true, 3), (true, 4), (true, 5), (true, 7), (true, 8), (true, 9), (true, 10), (true, 11), (true, 12), (false, 6), (false, 13), (true, 14), (true, 15), (true, 16), (true, 17), (true, 18), (true, 19), (true, 20), (false, 21), (true, 22)] z4 ?_
   refine Kl ((Ho).k) (k := ?_)
   refine Kl ((Ho).k) (k := ?_)
   refine Kl ((Mv).k) (k := ?_)
   refine AF5 ?_
   refine Kl ((Ai Oo).k) (k := ?_)
   refine Kl ((Ho).k) (k := ?_)
   refine Kl ((Ho).k) (k := ?_)
   refine Kl ((Mv).k) (k := ?_)
   refine Kl ((Ai Ul).k) (k := ?_)
   refine Kl ((Ai W8).k) (k := ?_)
   refine Kl (S3 (r := r34) (k := 13) (cs := [_, _, _, _, _]) isAgg34 sizeOf34 (by repeat (first | exact kD.nil | refine kD.cons (by repeat (first | exact List.mem_cons_self | apply List.mem_cons_of_mem)) ?_))) (k := ?_)
   refine AA1 (Bv isAgg49) (k := ?_)
   refine AS1 (Ad call161) (fun w1 hw1 => kM w1 (l := ((xA r c).rules)) (at_ := c.at_) (r := c.rule) (h_l := (fun w hw => ((Cx.j hs4_1.1 sh).at (m := ((Am (xR r) c.name).1).toNat) z3 w hw).1) w1 hw1) (n_l := by first | omega | (simp; done) | exact (hsm _ z2).1 | exact (hsm _ z2).2) (hG := hG.ext hw1.ext_out) (hE := hE.ext hw1.ext_out)) (k := ?_)
   rintro w1_12 e1_12 w2_12 hw1_12 ⟨a1_12, c1_12, B1_12, he_12, hf_12, ho1_12, hl1_12⟩
   refine ⟨_, _, _, he_12, hf_12, rfl, ?_⟩
   refine Kl ((Ho).k) (k := ?_)
   refine Kl ((Pu).k) (k := ?_)
   refine Kl ((Pu).k) (k := ?_)
   refine Kl ((Mv).k) (k := ?_)
   refine AF5 ?_
   refine Kl ((Ai Oo).k) (k := ?_)
   refine AR7 (V' := ((r34, oc [(vi ((xA r c).handle.slot)), (vi ((xA r c).handle.gen)), (vt ((xA r c).name)), (vi ((xA r c).state)), (vi ((xA r c).version)), (vs a1_12 ((De ((xA r c).rules) c.at_ c.rule).1.length) c1_12), (vs ((t4_1.getD (xN r c) default).ca) ((xA r c).creds.length) ((t4_1.getD (xN r c) default).cc)), (vi ((xA r c).deadline)), (vi (r.seq + 1)), (vi c.verb), (vt c.name), (vi c.want), (vi c.at_), (Value.bool c.rule.allow), (vi c.rule.pfx.addr), (vi c.rule.pfx.bits), (vi c.rule.prt.lo), (vi c.rule.prt.hi), (vt c.key), (vi c.n), (vi c.m), (vi now)] 97) :: [])) (by repeat (first | exact KC.nil | refine KC.cons z44 rfl ?_)) (Bt (l' := [_, _, _, _, _, _, _, _, _, _, _, _, _, _, _, _, _, _, _, _, _, _]) sizeOf49) (k := ?_)
   refine Kl ((Fj).k) (k := ?_)
   refine zW ?_
   refine My (nC nE) ?_
   refine Pm ?_
   refine AE9 ?_
   refine Vy ?_
   refine Au rfl (fun hq29 => ?_) (fun hq29 => ?_)
   rotate_left
   ·refine Bq ?_
    refine Ea ?_
    refine Vw ?_
    refine AP2 ?_
    refine Ov ?_
    refine lH ?_
    refine Z5 ?_
    exact Dy false 0 ((xA r c).state) ((De ((xA r c).rules) c.at_ c.rule).1) a1_12 c1_12 ((xA r c).creds) ((t4_1.getD (xN r c) default).ca) ((t4_1.getD (xN r c) default).cc) ((xA r c).deadline) B1_12 ⟨((((((((Is.refl (Is.xr6 ((((((Is.refl (Is.xr14 (((((hF.f hq1).neg hq2).neg hq3).neg hq4).f hq5))).neg hq6).neg hq12).f hq13).rn1 hJ20).f hq15))).neg hq16).neg hq18).neg hq20).neg hq25).pos hq27).pos hq28).neg hq29), (fun w hw => ⟨ho1_12.sl Ck (Em hw), ho1_12.le'⟩), (fun w hw => ⟨(hs4_1.1.at (m := ((Am (xR r) c.name).1).toNat) z3 w (Em hw)).2.1, (hs4_1.1.at (m := ((Am (xR r) c.name).1).toNat) z3 w (Em hw)).2.2.2⟩)⟩ se pj
   refine Z4 ?_
   refine fX ?_
   refine AP2 ?_
   refine Ov ?_
   refine lH ?_
   refine Z5 ?_
   exact Dy true ((De ((xA r c).rules) c.at_ c.rule).2) ((xA r c).state) ((De ((xA r c).rules) c.at_ c.rule).1) a1_12 c1_12 ((xA r c).creds) ((t4_1.getD (xN r c) default).ca) ((t4_1.getD (xN r c) default).cc) ((xA r c).deadline) B1_12 ⟨((((((((Is.refl (Is.xr6 ((((((Is.refl (Is.xr14 (((((hF.f hq1).neg hq2).neg hq3).neg hq4).f hq5))).neg hq6).neg hq12).f hq13).rn1 hJ20).f hq15))).neg hq16).neg hq18).neg hq20).neg hq25).pos hq27).pos hq28).pos hq29), (fun w hw => ⟨ho1_12.sl Ck (Em hw), ho1_12.le'⟩), (fun w hw => ⟨(hs4_1.1.at (m := ((Am (xR r) c.name).1).toNat) z3 w (Em hw)).2.1, (hs4_1.1.at (m := ((Am (xR r) c.name).1).toNat) z3 w (Em hw)).2.2.2⟩)⟩ se pj
  rintro err_21b err_21 x_22 x_23 x_23a x_23c x_24 x_24a x_24c x_25 x_23B ⟨hJ26, hx_23, hx_24⟩
  cases err_21b
  rotate_left
  ·refine kV (E2 := [(3, (Value.pointer (some ⟨r28, 0, none⟩))), (4, (Value.pointer (some ⟨r29, 0, none⟩))), (6, (Value.pointer (some ⟨r30, 0, none⟩))), (7, (Value.pointer (some ⟨r31, 0, none⟩))), (8, Value.nilIface), (9, (vi ((Am (xR r) c.name).1))), (11, (Value.pointer (some ⟨r34, 0, none⟩))), (12, (Value.iface 120 (Value.agg [(vi err_21)].toArray)))]) rfl ?_
   refine Ea ?_
   refine Z4 ?_
   refine Af (Rl (u := (Value.iface 120 (Value.agg [(vi err_21)].toArray))) (v := Value.nilIface) (b := true) (fun w => by kernel_rfl)) (k := ?_)
   refine fZ ?_
   refine Af K7 (k := ?_)
   refine yP ?_
   refine Cg ?_
   refine fI ?_
   refine Pi ?_
   refine Cj _ (sx (sd (sk (sk (sd (sd (sk (sk (sk (sk (sa (sk (sk (sk (sk sz))))))))))))))) ?_
   refine Z99 ?_
   refine fI ?_
   refine Z6 ?_
   refine jP ?_
   refine Ah Ag Wy (k := fun r46 hr46 => ?_)
   refine Ah Ag Ur (k := fun r47 hr47 => ?_)
   refine fU ?_
   exact Fx true err_21 0 0 ([] : Ap) 0 0 ([]) none 0 ([]) none 0 0 r.slots.gens a1_1 c1_1 r.slots.used a2_1 c2_1 r.slots.free a3_1 c3_1 r.l t4_1 a4_1 c4_1 ([]) r47 r46 ⟨((((((((Is.refl (Is.xr14 (((((hF.f hq1).neg hq2).neg hq3).neg hq4).f hq5))).neg hq6).neg hq12).f hq13).rn1 hJ20).f hq15).rn6 hJ26).pos rfl), Je.nil, Je.nil, (Dw.mono hs1_1 sh), (Dw.mono hs2_1 sh), (Dw.mono hs3_1 sh), ⟨(hs4_1.1.mono sh), hs4_1.2⟩, z9, z9, z9, z9⟩ se pj
  refine kV (E2 := [(3, (Value.pointer (some ⟨r28, 0, none⟩))), (4, (Value.pointer (some ⟨r29, 0, none⟩))), (6, (Value.pointer (some ⟨r30, 0, none⟩))), (7, (Value.pointer (some ⟨r31, 0, none⟩))), (8, Value.nilIface), (9, (vi ((Am (xR r) c.name).1))), (11, (Value.pointer (some ⟨r34, 0, none⟩))), (12, Value.nilIface)]) rfl ?_
  refine Ea ?_
  refine Z4 ?_
  refine AE4 ?_
  refine Gj rfl ?_
  refine Js ?_
  refine Z2 ?_
  refine Af (Ai cG) (k := ?_)
  refine Hx ?_
  refine lS ?_
  refine Bg ?_
  refine Bg ?_
  refine Fk _ (sa (sk (sk (sk (sd (sk (sk (sk (sk (sk (sa (sk (sk (sk (sk sz))))))))))))))) ?_
  refine Cs ?_
  refine lW ?_
  refine Au rfl (fun hq34 => ?_) (fun hq34 => ?_)
  ·refine Bq ?_
   refine Ea ?_
   refine Au rfl (fun hq35 => ?_) (fun hq35 => ?_)
   rotate_left
   ·exact absurd hq34 hq35
   refine Bg ?_
   refine AN4 ?_
   refine lT ?_
   refine AC5 ?_
   refine L5 ?_
   refine Ov ?_
   refine cQ ?_
   refine Z7 ?_
   refine Cj _ (sk (sk (sx (sd (sd (sk (sk (sk (sk (sa (sk (sk (sk (sk sz)))))))))))))) ?_
   refine Z99 ?_
   refine fI ?_
   refine Z6 ?_
   refine jP ?_
   refine Ah Ag Wy (k := fun r38 hr38 => ?_)
   refine Ah Ag Ur (k := fun r39 hr39 => ?_)
   refine fU ?_
   exact Fx false 0 ((xA r c).handle.slot) ((xA r c).handle.gen) ((xA r c).name) ((xA r c).state) ((xA r c).version) ((xA r c).rules) ((t4_1.getD (xN r c) default).ra) ((t4_1.getD (xN r c) default).rc) ((xA r c).creds) ((t4_1.getD (xN r c) default).ca) ((t4_1.getD (xN r c) default).cc) ((xA r c).deadline) r.slots.gens a1_1 c1_1 r.slots.used a2_1 c2_1 r.slots.free a3_1 c3_1 r.l t4_1 a4_1 c4_1 ([]) r39 r38 ⟨(((((((((Is.refl (Is.xr14 (((((hF.f hq1).neg hq2).neg hq3).neg hq4).f hq5))).neg hq6).neg hq12).f hq13).rn1 hJ20).f hq15).rn6 hJ26).neg Bool.false_ne_true).pos hq34), (fun w hw => ⟨(hs4_1.1.at (m := ((Am (xR r) c.name).1).toNat) z3 w (Em hw)).1, (hs4_1.1.at (m := ((Am (xR r) c.name).1).toNat) z3 w (Em hw)).2.2.1⟩), (fun w hw => ⟨(hs4_1.1.at (m := ((Am (xR r) c.name).1).toNat) z3 w (Em hw)).2.1, (hs4_1.1.at (m := ((Am (xR r) c.name).1).toNat) z3 w (Em hw)).2.2.2⟩), (Dw.mono hs1_1 sh), (Dw.mono hs2_1 sh), (Dw.mono hs3_1 sh), ⟨(hs4_1.1.mono sh), hs4_1.2⟩, z9, z9, z9, z9⟩ se pj
  refine Cs ?_
  refine lW ?_
  refine Au rfl (fun hq36 => ?_) (fun hq36 => ?_)
  ·refine Bg ?_
   refine AN4 ?_
   refine lT ?_
   refine AC5 ?_
   refine L5 ?_
   refine Ov ?_
   refine cQ ?_
   refine Z7 ?_
   refine Cj _ (sk (sk (sx (sd (sd (sk (sk (sk (sk (sa (sk (sk (sk (sk sz)))))))))))))) ?_
   refine Z99 ?_
   refine fI ?_
   refine Z6 ?_
   refine jP ?_
   refine Ah Ag Wy (k := fun r40 hr40 => ?_)
   refine Ah Ag Ur (k := fun r41 hr41 => ?_)
   refine fU ?_
   exact Fx false 0 ((xA r c).handle.slot) ((xA r c).handle.gen) ((xA r c).name) ((xA r c).state) ((xA r c).version) ((xA r c).rules) ((t4_1.getD (xN r c) default).ra) ((t4_1.getD (xN r c) default).rc) ((xA r c).creds) ((t4_1.getD (xN r c) default).ca) ((t4_1.getD (xN r c) default).cc) ((xA r c).deadline) r.slots.gens a1_1 c1_1 r.slots.used a2_1 c2_1 r.slots.free a3_1 c3_1 r.l t4_1 a4_1 c4_1 ([]) r41 r40 ⟨((((((((((Is.refl (Is.xr14 (((((hF.f hq1).neg hq2).neg hq3).neg hq4).f hq5))).neg hq6).neg hq12).f hq13).rn1 hJ20).f hq15).rn6 hJ26).neg Bool.false_ne_true).neg hq34).pos hq36), (fun w hw => ⟨(hs4_1.1.at (m := ((Am (xR r) c.name).1).toNat) z3 w (Em hw)).1, (hs4_1.1.at (m := ((Am (xR r) c.name).1).toNat) z3 w (Em hw)).2.2.1⟩), (fun w hw => ⟨(hs4_1.1.at (m := ((Am (xR r) c.name).1).toNat) z3 w (Em hw)).2.1, (hs4_1.1.at (m := ((Am (xR r) c.name).1).toNat) z3 w (Em hw)).2.2.2⟩), (Dw.mono hs1_1 sh), (Dw.mono hs2_1 sh), (Dw.mono hs3_1 sh), ⟨(hs4_1.1.mono sh), hs4_1.2⟩, z9, z9, z9, z9⟩ se pj
  refine Z2 ?_
  refine lW ?_
  refine Au rfl (fun hq37 => ?_) (fun hq37 => ?_)
  rotate_left
  ·refine Bq ?_
   refine Xb ?_
   refine Z4 ?_
   refine Ns ?_
   refine yA ?_
   refine Zi ?_
   refine Ns ?_
   refine AD7 ?_
   refine Me ?_
   refine Gv _ _ (vp ((qc (qa q0)).trans (qa (qc (qa q0)))) (nC (nC nE))) Da 15 [(true, 0), (true, 1), (true, 2), (true, 3), (true, 4), (true, 5), (true, 7), (true, 8), (true, 9), (true, 10), (true, 11), (false, 6), (false, 12), (false, 13), (true, 14)] z4 ?_
   refine mB ?_
   refine jG ?_
   refine O6 ?_
   refine jG ?_
   refine O6 ?_
   refine dL (Ad call51) (fun w1 hw1 => kR w1 (xs := r.l) (ts := t4_1) (x := (Aa.mk ((xA r c).handle) ((xA r c).name) x_22 (((xA r c).version) + 1) x_23 x_24 x_25)) (v := (TA.mk x_23a x_23c x_24a x_24c)) ((Cx.j hs4_1.1 sh).2 w1 hw1) Ri hs4_1.2) (k := ?_)
   rintro w1_19 e1_19 w2_19 hw1_19 ⟨a1_19, c1_19, B1_19, he_19, hf_19, ho1_19⟩
   refine ⟨_, _, _, he_19, hf_19, rfl, ?_⟩
   have hdp40 : Bs (B_1 ++ (x_23B ++ [])) DT (Fp r.l (Aa.mk ((xA r c).handle) ((xA r c).name) x_22 (((xA r c).version) + 1) x_23 x_24 x_25)) (Wq r.l t4_1 (Aa.mk ((xA r c).handle) ((xA r c).name) x_22 (((xA r c).version) + 1) x_23 x_24 x_25) (TA.mk x_23a x_23c x_24a x_24c)) := Bs.put ((Bs.of hs4_1.1).mono sh) (Bs.one (B := (B_1 ++ (x_23B ++ []))) (D := DT) (fun w hw => ⟨(hx_23 w (Em hw)).1, (hx_24 w (Em hw)).1, (hx_23 w (Em hw)).2, (hx_24 w (Em hw)).2⟩))
   have hpx_19 := Ni r.l (Aa.mk ((xA r c).handle) ((xA r c).name) x_22 (((xA r c).version) + 1) x_23 x_24 x_25)
   refine L5 ?_
   refine Ov ?_
   refine cQ ?_
   refine Cj _ (sk (sk (sa (sa (sd (sd (sk (sk (sk (sk (sa (sk (sk (sk (sk sz))))))))))))))) ?_
   refine Z99 ?_
   refine fI ?_
   refine Z6 ?_
   refine Cj _ (sd (sd (sa (sa (sk (sk (sd (sd (sa (sk (sk (sk (sk sz))))))))))))) ?_
   refine Z42 ?_
   refine K1 ?_
   refine Ah Ag Wy (k := fun r44 hr44 => ?_)
   refine Ah Ag Ur (k := fun r45 hr45 => ?_)
   refine O5 ?_
   refine Ci _ (((((((((qa (qa (qc (qc (qa (qa (qc (qa (qa (qa q0)))))))))).trans (qa (qa (qa (qc (qc (qa (qa (qc (qa (qa q0))))))))))).trans (qa (qa (qa (qa (qc (qc (qa (qa (qc (qa q0))))))))))).trans (qa (qa (qa (qa (qa (qc (qc (qa (qa (qc q0))))))))))).trans (qb (qb (qb (qb (qb (qb (qd (qd (qb (qb q0))))))))))).trans (qc (qa (qa (qa (qa (qa q0))))))).trans (qa (qc (qa (qa (qa (qa q0))))))).trans (qb (qb (qd (qb (qb (qb (qb q0)))))))).trans (qd (qb (qb (qd (qb (qb (qb (qb q0))))))))) ?_
   refine Cj _ (List.Sublist.append Ou (List.Sublist.append Ou (List.Sublist.cons_cons _ (List.Sublist.cons_cons _ (List.Sublist.append Ou (List.Sublist.cons_cons _ (List.Sublist.cons_cons _ oJ))))))) ?_
   exact Fx false 0 ((xA r c).handle.slot) ((xA r c).handle.gen) ((xA r c).name) x_22 (((xA r c).version) + 1) x_23 x_23a x_23c x_24 x_24a x_24c x_25 r.slots.gens a1_1 c1_1 r.slots.used a2_1 c2_1 r.slots.free a3_1 c3_1 (Fp r.l (Aa.mk ((xA r c).handle) ((xA r c).name) x_22 (((xA r c).version) + 1) x_23 x_24 x_25)) (Wq r.l t4_1 (Aa.mk ((xA r c).handle) ((xA r c).name) x_22 (((xA r c).version) + 1) x_23 x_24 x_25) (TA.mk x_23a x_23c x_24a x_24c)) a1_19 c1_19 (x_23B ++ B1_19) r45 r44 ⟨(((((((((((Is.refl (Is.xr14 (((((hF.f hq1).neg hq2).neg hq3).neg hq4).f hq5))).neg hq6).neg hq12).f hq13).rn1 hJ20).f hq15).rn6 hJ26).neg Bool.false_ne_true).neg hq34).neg hq36).neg hq37), (fun w hw => ⟨(hx_23 w (Em hw)).1, (hx_23 w (Em hw)).2⟩), (fun w hw => ⟨(hx_24 w (Em hw)).1, (hx_24 w (Em hw)).2⟩), (Dw.mono hs1_1 sh), (Dw.mono hs2_1 sh), (Dw.mono hs3_1 sh), ⟨((Bi.nb (U := (B1_19 ++ (B_1 ++ (x_23B ++ [])))) Av ho1_19 hdp40 (hB := sh) (hR := sh)).mono sh), (by have h0 := ho1_19.le'; rwa [Br hdp40.1] at h0)⟩, z9, z9, z9, z9⟩ se pj
  refine Z4 ?_
  refine Ns ?_
  refine yA ?_
  refine Zi ?_
  refine Ns ?_
  refine AD7 ?_
  refine Me ?_
  refine rU _ _ [] (vp (qc (qa (qa (qa q0)))) (nC nE)) (by repeat (first | exact KC.nil | refine KC.cons z44 rfl ?_)) Da 14 [(true, 0), (true, 2), (true, 3), (true, 4), (true, 5), (true, 6), (true, 7), (false, 1), (false, 8), (true, 9), (true, 10), (true, 11), (true, 12), (false, 13)] z4 ?_
  refine Kl ((Ai Yn).k) (k := ?_)
  refine Kl ((Ho).k) (k := ?_)
  refine Kl ((Mv).k) (k := ?_)
  refine AF5 ?_
  refine Kl ((Ai Kg).k) (k := ?_)
  refine Kl ((Dq isAgg42 sizeOf42).k) (k := ?_)
  refine AA1 z66 (k := ?_)
  refine AS1 (Ad call113) (fun w1 hw1 => D9 w1 (s := r.slots) (h := ((xA r c).handle)) (h_s_gens := (Dw.slj hs1_1) w1 hw1) (n_s_gens := by first | omega | (simp; done) | exact (hsm _ z2).1 | exact (hsm _ z2).2) (h_s_used := (Dw.slj hs2_1) w1 hw1) (n_s_used := by first | omega | (simp; done) | exact (hsm _ z2).1 | exact (hsm _ z2).2) (h_s_free := (Dw.slj hs3_1) w1 hw1) (n_s_free := by first | omega | (simp; done) | exact (hsm _ z2).1 | exact (hsm _ z2).2)) (k := ?_)
  rintro w1_15 e1_15 w2_15 hw1_15 ⟨a1_15, c1_15, a2_15, c2_15, a3_15, c3_15, B_15, he_15, hf_15, hs1_15, hs2_15, hs3_15, hl1_15, hl2_15, hl3_15⟩
  refine ⟨_, _, _, he_15, hf_15, rfl, ?_⟩
  refine Kl ((Ho).k) (k := ?_)
  refine Kl ((Pu).k) (k := ?_)
  refine Kl ((Pu).k) (k := ?_)
  refine Kl ((Ai Yn).k) (k := ?_)
  refine AR7 (V' := ((r28, oc [(vs a1_15 ((Ft r.slots ((xA r c).handle)).1.gens.length) c1_15), (vs a2_15 ((Ft r.slots ((xA r c).handle)).1.used.length) c2_15), (vs a3_15 ((Ft r.slots ((xA r c).handle)).1.free.length) c3_15), (vs a4_1 r.l.length c4_1), (vi (r.seq + 1))] 28) :: [])) (by repeat (first | exact KC.nil | refine KC.cons z44 rfl ?_)) (Bt (l' := [_, _, _, _, _]) sizeOf25) (k := ?_)
  refine zW ?_
  refine My (nC nE) ?_
  refine Uw ?_
  refine xD ?_
  refine Gy (Ad call115) (fun w1 hw1 => wC w1 (xs := r.l) (ts := t4_1) ((Cx.j hs4_1.1 sh).2 w1 hw1) Ri) (k := ?_)
  rintro w1_16 e1_16 w2_16 hw1_16 ⟨a1_16, c1_16, B1_16, he_16, hf_16, ho1_16⟩
  refine ⟨_, _, he_16, hw1_16.fresh hf_16, ?_⟩
  have hdp38 : Bs (B_1 ++ []) DT r.l t4_1 := ((Bs.of hs4_1.1).mono sh)
  refine Cg ?_
  refine J8 ?_
  refine Gy (Ad call114) (fun w1 hw1 => X0 w1 (i := ((Am (xR r) c.name).1)) (j := (((Am (xR r) c.name).1) + 1)) ho1_16 (sho hw1) hdp38.1 Ri Ri) (k := ?_)
  rintro w1_17 e1_17 w2_17 hw1_17 ⟨a1_17, c1_17, B1_17, he_17, hf_17, ho1_17⟩
  refine ⟨_, _, he_17, (hw1_17.perm q0).tr hf_17, ?_⟩
  have hdp39 : Bs (B_1 ++ []) DT (delL r.l ((Am (xR r) c.name).1).toNat (((Am (xR r) c.name).1) + 1).toNat) (delL t4_1 ((Am (xR r) c.name).1).toNat (((Am (xR r) c.name).1) + 1).toNat) := Bs.delL hdp38 _ _
  have hdx_17 : (delL r.l ((Am (xR r) c.name).1).toNat (((Am (xR r) c.name).1) + 1).toNat).length = r.l.length - 1 := by rw [Gr z2 z2]; omega
  refine Af (Ai Kf) (k := ?_)
  refine Gw (Bt (l' := [_, _, _, _, _]) sizeOf26) (k := ?_)
  refine Me ?_
  refine Gv _ _ (vp ((qc (qa (qc (qc (qa q0))))).trans (qa (qc (qa (qc (qc (qa q0))))))) (nC (nC nE))) Da 9 [(true, 0), (true, 1), (true, 2), (true, 3), (true, 4), (true, 5), (false, 6), (false, 7), (true, 8)] z4 ?_
  refine mB ?_
  refine jG ?_
  refine O6 ?_
  refine L5 ?_
  refine Ov ?_
  refine cQ ?_
  refine Z7 ?_
  refine Cj _ (sk (sk (sa (sd (sa (sa (sd (sk (sk (sk (sk (sa (sk (sk (sk (sk sz)))))))))))))))) ?_
  refine Z99 ?_
  refine fI ?_
  refine Z6 ?_
  refine Cj _ (sd (sd (sa (sa (sa (sk (sk (sd (sd (sa (sk (sk (sk (sk sz)))))))))))))) ?_
  refine Z42 ?_
  refine K1 ?_
  refine Ah Ag Wy (k := fun r42 hr42 => ?_)
  refine Ah Ag Ur (k := fun r43 hr43 => ?_)
  refine O5 ?_
  refine Ci _ ((((((((((qa (qa (qc (qc (qc (qa (qa (qc (qa (qa (qa q0))))))))))).trans (qa (qa (qa (qc (qc (qc (qa (qa (qc (qa (qa q0)))))))))))).trans (qa (qa (qa (qa (qc (qc (qc (qa (qa (qc (qa q0)))))))))))).trans (qa (qa (qa (qa (qa (qc (qc (qc (qa (qa (qc q0)))))))))))).trans (qb (qb (qb (qb (qb (qb (qd (qd (qd (qb (qb q0)))))))))))).trans (qc (qa (qa (qa (qa (qa q0))))))).trans (qa (qc (qa (qa (qa (qa q0))))))).trans (qb (qb (qd (qb (qb (qb (qb q0)))))))).trans (qd (qb (qb (qd (qb (qb (qb (qb q0))))))))).trans (qd (qd (qb (qb (qd (qb (qb (qb (qb q0)))))))))) ?_
  refine AQ4 ?_
  exact Fx false 0 ((xA r c).handle.slot) ((xA r c).handle.gen) ((xA r c).name) x_22 (((xA r c).version) + 1) x_23 x_23a x_23c x_24 x_24a x_24c x_25 ((Ft r.slots ((xA r c).handle)).1.gens) a1_15 c1_15 ((Ft r.slots ((xA r c).handle)).1.used) a2_15 c2_15 ((Ft r.slots ((xA r c).handle)).1.free) a3_15 c3_15 (delL r.l ((Am (xR r) c.name).1).toNat (((Am (xR r) c.name).1) + 1).toNat) (delL t4_1 ((Am (xR r) c.name).1).toNat (((Am (xR r) c.name).1) + 1).toNat) a1_17 c1_17 (x_23B ++ (B_15 ++ B1_17)) r43 r42 ⟨(((((((((((Is.refl (Is.xr14 (((((hF.f hq1).neg hq2).neg hq3).neg hq4).f hq5))).neg hq6).neg hq12).f hq13).rn1 hJ20).f hq15).rn6 hJ26).neg Bool.false_ne_true).neg hq34).neg hq36).pos hq37), (fun w hw => ⟨(hx_23 w (Em hw)).1, (hx_23 w (Em hw)).2⟩), (fun w hw => ⟨(hx_24 w (Em hw)).1, (hx_24 w (Em hw)).2⟩), (Dw.mono hs1_15 sh), (Dw.mono hs2_15 sh), (Dw.mono hs3_15 sh), ⟨((Bi.nb (U := (B1_17 ++ (B_1 ++ []))) Av ho1_17 hdp39 (hB := sh) (hR := sh)).mono sh), (by have h0 := ho1_17.le'; rwa [Br hdp39.1] at h0)⟩, z9, z9, z9, z9⟩ se pj
 rintro err_1b err_1 x_2 x_3 x_4 x_5 x_6 x_7 x_7a x_7c x_8 x_8a x_8c x_9 x_10 x_10a x_10c x_11 x_11a x_11c x_12 x_12a x_12c x_13 x_13t x_13a x_13c x_7B r14 r13 ⟨hJ14, hx_7, hx_8, hx_10, hx_11, hx_12, ⟨hx_13, hkx_13⟩, hi15, hi16, hi17, hi18⟩
 cases err_1b
 rotate_left
 ·refine kV (E2 := [(4, (Value.pointer (some ⟨r1, 0, none⟩))), (8, (Value.pointer (some ⟨r3, 0, none⟩))), (9, (Value.pointer (some ⟨r4, 0, none⟩))), (10, (Value.pointer (some ⟨r13, 0, none⟩))), (11, (Value.pointer (some ⟨r14, 0, none⟩))), (12, (Value.iface 120 (Value.agg [(vi err_1)].toArray)))]) rfl ?_
  refine cT ?_
  refine Fk _ (sa (sk (sk (sa (sk (sk (sd (sk sz)))))))) ?_
  refine bX (σ1 := Nat) (fun r569 => ((r569, oc [(vi err_1), (vi (r.seq + 1)), (vi x_2), (vi x_3), (vi x_6), (vi x_5)] 44) :: (x_7B ++ ((r14, oc [(vi x_2), (vi x_3), (vt x_4), (vi x_5), (vi x_6), (vs x_7a x_7.length x_7c), (vs x_8a x_8.length x_8c), (vi x_9)] 52) :: ((r13, oc [(vs x_10a x_10.length x_10c), (vs x_11a x_11.length x_11c), (vs x_12a x_12.length x_12c), (vs x_13a x_13.length x_13c), (vi (r.seq + 1))] 28) :: (B_1 ++ ((r4, oc [(vi 0), (vi 0), (vi 0), (vi 0), (vi 0), (vi 0)] 44) :: ((r3, oc [(vs none 0 0), (vs none 0 0), (vs none 0 0), (vs none 0 0), (vi 0)] 28) :: ((r1, oc [(vs a1_1 r.slots.gens.length c1_1), (vs a2_1 r.slots.used.length c2_1), (vs a3_1 r.slots.free.length c3_1), (vs a4_1 r.l.length c4_1), (vi (r.seq + 1))] 28) :: []))))))))) (fun r569 => [(4, (Value.pointer (some ⟨r1, 0, none⟩))), (8, (Value.pointer (some ⟨r3, 0, none⟩))), (9, (Value.pointer (some ⟨r4, 0, none⟩))), (10, (Value.pointer (some ⟨r13, 0, none⟩))), (12, (Value.iface 120 (Value.agg [(vi err_1)].toArray))), (13, (Value.pointer (some ⟨r569, 0, none⟩)))]) (fun r569 => Is () ()) ?_ ?_
  ·skip
   refine Xo (V := []) Da 12 z4 ?_
   refine Ez 0 rfl z4 Ho (k := ?_)
   refine Ez 2 rfl z4 (Ai Ol) (k := ?_)
   refine Ez 3 rfl z4 xH (k := ?_)
   refine Ez 4 rfl z4 (Ai Kg) (k := ?_)
   refine Ez 5 rfl z4 (Dq isAgg42 sizeOf42) (k := ?_)
   refine Ez 6 rfl z4 (Ai Qv) (k := ?_)
   refine Ez 7 rfl z4 xH (k := ?_)
   refine Ez 8 rfl z4 (Ai Uh) (k := ?_)
   refine Ez 9 rfl z4 xH (k := ?_)
   refine Cr [1, 11] z4 rfl (List.forall_mem_cons.2 ⟨?_, (List.forall_mem_cons.2 ⟨?_, nofun⟩)⟩)
   ·skip
    refine AO3 ?_
    refine Cr [11] z4 rfl (List.forall_mem_cons.2 ⟨?_, nofun⟩)
    ·skip
     refine Lf rfl Ag xG (k := fun r569 hr569 => ?_)
     refine N0 ?_
     refine Eh ?_
     exact Li r569 (Is.refl ()) se (List.Perm.refl _)
   ·skip
    refine Lf rfl Ag xG (k := fun r569 hr569 => ?_)
    refine Cr [1] z4 rfl (List.forall_mem_cons.2 ⟨?_, nofun⟩)
    ·skip
     refine AO3 ?_
     refine N0 ?_
     refine Eh ?_
     exact Li r569 (Is.refl ()) se (List.Perm.refl _)
  intro r569 hJ28
  refine cT ?_
  refine Bg ?_
  refine Fk _ (sk (sa (sd (sk (sa (sk (sk (sk sz)))))))) ?_
  refine Cs ?_
  refine Af (Ai sN) (k := ?_)
  refine Af (Bv isAgg40) (k := ?_)
  refine oP ?_
  refine Q4 ?_
  refine Ah Ag xG (k := fun r609 hr609 => ?_)
  refine Q5 ?_
  refine Pm ?_
  refine Af (Rl (u := (Value.iface 120 (Value.agg [(vi err_1)].toArray))) (v := Value.nilIface) (b := true) (fun w => by kernel_rfl)) (k := ?_)
  refine Z0 ?_
  refine Ow rfl ?_
  refine Bg ?_
  refine Gv _ _ (vp ((qa (qa (qc (qa (qc q0))))).trans (qa (qa (qa (qc (qa (qc q0))))))) (nC (nC nE))) Da 4 [(true, 0), (true, 1), (false, 2), (false, 3)] z4 ?_
  refine mB ?_
  refine Aw z71 (k := ?_)
  refine AD2 ?_
  refine Oz ?_
  refine cQ ?_
  refine Fl ?_
  refine Ab results17 z29 (fun w1 hw1 => ?_)
  exact ⟨a1_1, c1_1, a2_1, c2_1, a3_1, c3_1, a4_1, c4_1, t4_1, B_1, (rq ((((((((hF.f hq1).neg hq2).neg hq3).neg hq4).f hq5).rn14 hJ14).pos rfl).rn0 hJ28)), (Ba (L := B_1) (hw1.perm (qb (qb (qb (qb (qd (qb q0))))))) rfl.symm), (by rw [((((((((hF.f hq1).neg hq2).neg hq3).neg hq4).f hq5).rn14 hJ14).pos rfl).rn0 hJ28).eq]; exact (hs1_1.mono z8)), (by rw [((((((((hF.f hq1).neg hq2).neg hq3).neg hq4).f hq5).rn14 hJ14).pos rfl).rn0 hJ28).eq]; exact (hs2_1.mono z8)), (by rw [((((((((hF.f hq1).neg hq2).neg hq3).neg hq4).f hq5).rn14 hJ14).pos rfl).rn0 hJ28).eq]; exact (hs3_1.mono z8)), (by rw [((((((((hF.f hq1).neg hq2).neg hq3).neg hq4).f hq5).rn14 hJ14).pos rfl).rn0 hJ28).eq]; exact ⟨(hs4_1.1.mono sh), hs4_1.2⟩), (rl ((((((((hF.f hq1).neg hq2).neg hq3).neg hq4).f hq5).rn14 hJ14).pos rfl).rn0 hJ28)), (rl ((((((((hF.f hq1).neg hq2).neg hq3).neg hq4).f hq5).rn14 hJ14).pos rfl).rn0 hJ28)), (rl ((((((((hF.f hq1).neg hq2).neg hq3).neg hq4).f hq5).rn14 hJ14).pos rfl).rn0 hJ28)), (rl ((((((((hF.f hq1).neg hq2).neg hq3).neg hq4).f hq5).rn14 hJ14).pos rfl).rn0 hJ28))⟩
 refine kV (E2 := [(4, (Value.pointer (some ⟨r1, 0, none⟩))), (8, (Value.pointer (some ⟨r3, 0, none⟩))), (9, (Value.pointer (some ⟨r4, 0, none⟩))), (10, (Value.pointer (some ⟨r13, 0, none⟩))), (11, (Value.pointer (some ⟨r14, 0, none⟩))), (12, Value.nilIface)]) rfl ?_
 refine cT ?_
 refine Fk _ (sa (sk (sk (sa (sk (sk (sd (sk sz)))))))) ?_
 refine bX (σ1 := Nat) (fun r288 => ((r288, oc [(vi 0), (vi (r.seq + 1)), (vi x_2), (vi x_3), (vi x_6), (vi x_5)] 44) :: (x_7B ++ ((r14, oc [(vi x_2), (vi x_3), (vt x_4), (vi x_5), (vi x_6), (vs x_7a x_7.length x_7c), (vs x_8a x_8.length x_8c), (vi x_9)] 52) :: ((r13, oc [(vs x_10a x_10.length x_10c), (vs x_11a x_11.length x_11c), (vs x_12a x_12.length x_12c), (vs x_13a x_13.length x_13c), (vi (r.seq + 1))] 28) :: (B_1 ++ ((r4, oc [(vi 0), (vi 0), (vi 0), (vi 0), (vi 0), (vi 0)] 44) :: ((r3, oc [(vs none 0 0), (vs none 0 0), (vs none 0 0), (vs none 0 0), (vi 0)] 28) :: ((r1, oc [(vs a1_1 r.slots.gens.length c1_1), (vs a2_1 r.slots.used.length c2_1), (vs a3_1 r.slots.free.length c3_1), (vs a4_1 r.l.length c4_1), (vi (r.seq + 1))] 28) :: []))))))))) (fun r288 => [(4, (Value.pointer (some ⟨r1, 0, none⟩))), (8, (Value.pointer (some ⟨r3, 0, none⟩))), (9, (Value.pointer (some ⟨r4, 0, none⟩))), (10, (Value.pointer (some ⟨r13, 0, none⟩))), (12, Value.nilIface), (13, (Value.pointer (some ⟨r288, 0, none⟩)))]) (fun r288 => Is () ()) ?_ ?_
 ·skip
  refine Xo (V := []) Da 12 z4 ?_
  refine Ez 0 rfl z4 Ho (k := ?_)
  refine Ez 2 rfl z4 (Ai Ol) (k := ?_)
  refine Ez 3 rfl z4 xH (k := ?_)
  refine Ez 4 rfl z4 (Ai Kg) (k := ?_)
  refine Ez 5 rfl z4 (Dq isAgg42 sizeOf42) (k := ?_)
  refine Ez 6 rfl z4 (Ai Qv) (k := ?_)
  refine Ez 7 rfl z4 xH (k := ?_)
  refine Ez 8 rfl z4 (Ai Uh) (k := ?_)
  refine Ez 9 rfl z4 xH (k := ?_)
  refine Cr [1, 11] z4 rfl (List.forall_mem_cons.2 ⟨?_, (List.forall_mem_cons.2 ⟨?_, nofun⟩)⟩)
  ·skip
   refine AO5 ?_
   refine Cr [11] z4 rfl (List.forall_mem_cons.2 ⟨?_, nofun⟩)
   ·skip
    refine Lf rfl Ag xG (k := fun r288 hr288 => ?_)
    refine N0 ?_
    refine Eh ?_
    exact Li r288 (Is.refl ()) se (List.Perm.refl _)
  ·skip
   refine Lf rfl Ag xG (k := fun r288 hr288 => ?_)
   refine Cr [1] z4 rfl (List.forall_mem_cons.2 ⟨?_, nofun⟩)
   ·skip
    refine AO5 ?_
    refine N0 ?_
    refine Eh ?_
    exact Li r288 (Is.refl ()) se (List.Perm.refl _)
 intro r288 hJ27
 refine cT ?_
 refine Bg ?_
 refine Fk _ (sk (sa (sd (sk (sa (sk (sk (sk sz)))))))) ?_
 refine Cs ?_
 refine Af (Ai sN) (k := ?_)
 refine Af (Bv isAgg40) (k := ?_)
 refine oP ?_
 refine Q4 ?_
 refine Ah Ag xG (k := fun r328 hr328 => ?_)
 refine Q5 ?_
 refine Pm ?_
 refine AE4 ?_
 refine Gj rfl ?_
 refine Js ?_
 refine Fk _ (sd (sk (sa (sk (sa (sk (sk (sd sz)))))))) ?_
 refine Gv _ _ (vp ((qa (qc (qa (qc q0)))).trans (qa (qa (qc (qa (qc q0)))))) (nC (nC nE))) Da 4 [(true, 0), (true, 1), (false, 2), (false, 3)] z4 ?_
 refine mB ?_
 refine Aw z71 (k := ?_)
 refine AD2 ?_
 refine Oz ?_
 refine cQ ?_
 refine Ab results17 z29 (fun w1 hw1 => ?_)
 exact ⟨x_10a, x_10c, x_11a, x_11c, x_12a, x_12c, x_13a, x_13c, x_13t, (B_1 ++ x_7B), (rq ((((((((hF.f hq1).neg hq2).neg hq3).neg hq4).f hq5).rn14 hJ14).neg Bool.false_ne_true).rn0 hJ27)), (Ba (L := (B_1 ++ x_7B)) (hw1.perm ((qb (qb (qb q0))).trans (qd (qb (qb (qb (qb q0))))))) (nA rfl).symm), (by rw [((((((((hF.f hq1).neg hq2).neg hq3).neg hq4).f hq5).rn14 hJ14).neg Bool.false_ne_true).rn0 hJ27).eq]; exact (hx_10.mono z8)), (by rw [((((((((hF.f hq1).neg hq2).neg hq3).neg hq4).f hq5).rn14 hJ14).neg Bool.false_ne_true).rn0 hJ27).eq]; exact (hx_11.mono z8)), (by rw [((((((((hF.f hq1).neg hq2).neg hq3).neg hq4).f hq5).rn14 hJ14).neg Bool.false_ne_true).rn0 hJ27).eq]; exact (hx_12.mono z8)), (by rw [((((((((hF.f hq1).neg hq2).neg hq3).neg hq4).f hq5).rn14 hJ14).neg Bool.false_ne_true).rn0 hJ27).eq]; exact ⟨(hx_13.mono sh), hkx_13⟩), (rl ((((((((hF.f hq1).neg hq2).neg hq3).neg hq4).f hq5).rn14 hJ14).neg Bool.false_ne_true).rn0 hJ27)), (rl ((((((((hF.f hq1).neg hq2).neg hq3).neg hq4).f hq5).rn14 hJ14).neg Bool.false_ne_true).rn0 hJ27)), (rl ((((((((hF.f hq1).neg hq2).neg hq3).neg hq4).f hq5).rn14 hJ14).neg Bool.false_ne_true).rn0 hJ27)), (rl ((((((((hF.f hq1).neg hq2).neg hq3).neg hq4).f hq5).rn14 hJ14).neg Bool.false_ne_true).rn0 hJ27))⟩

theorem Uq (w : World) {r_Sg_a : Option Addr} {r_Sg_c : Nat} {r_Su_a : Option Addr} {r_Su_c : Nat} {r_Sf_a : Option Addr} {r_Sf_c : Nat} {r_l_a : Option Addr} {r_l_c : Nat} {r_l_t : List TA} {ea0 : Addr} {ea1 : Addr} {ea2 : Addr} {ea3 : Addr} {r : Ac} {role : Int} {c : Ak} {now : Int} (h_r_Sg : Sl w eI 1 r_Sg_a r.slots.gens) (n_r_Sg : r.slots.gens.length ≤ 1000) (h_r_Su : Sl w eB 1 r_Su_a r.slots.used) (n_r_Su : r.slots.used.length ≤ 1000) (h_r_Sf : Sl w eI 1 r_Sf_a r.slots.free) (n_r_Sf : r.slots.free.length ≤ 1000) (h_r_l : Rm w Bu 8 DT r_l_a r.l r_l_t) (n_r_l : r.l.length ≤ 1000) (k_r_l : r.l.length ≤ r_l_c) (i_c_at_ : -9223372036854775808 ≤ c.at_ ∧ c.at_ ≤ 9223372036854775807) (hG : Gl w) (hE : Er w ea0 ea1 ea2 ea3) (hsm : Bk r.l) : Calls Tryz.prog 17 (List.toArray [(Value.agg [(vs r_Sg_a r.slots.gens.length r_Sg_c), (vs r_Su_a r.slots.used.length r_Su_c), (vs r_Sf_a r.slots.free.length r_Sf_c), (vs r_l_a r.l.length r_l_c), (vi r.seq)].toArray), (vi role), (Value.agg [(vi c.verb), (vt c.name), (vi c.want), (vi c.at_), (Value.bool c.rule.allow), (vi c.rule.pfx.addr), (vi c.rule.pfx.bits), (vi c.rule.prt.lo), (vi c.rule.prt.hi), (vt c.key), (vi c.n), (vi c.m)].toArray), (vi now)]) w fun e w2 => ∃ a1 : Option Addr, ∃ c1 : Nat, ∃ a2 : Option Addr, ∃ c2 : Nat, ∃ a3 : Option Addr, ∃ c3 : Nat, ∃ a4 : Option Addr, ∃ c4 : Nat, ∃ t4 : List TA, ∃ B : Aj, e = .returned (Value.tuple [(Value.agg [(vs a1 ((Aq r role c now).1.slots.gens.length) c1), (vs a2 ((Aq r role c now).1.slots.used.length) c2), (vs a3 ((Aq r role c now).1.slots.free.length) c3), (vs a4 ((Aq r role c now).1.l.length) c4), (vi ((Aq r role c now).1.seq))].toArray), (Value.agg [(vi ((Aq r role c now).2.err)), (vi ((Aq r role c now).2.seq)), (vi ((Aq r role c now).2.handle.slot)), (vi ((Aq r role c now).2.handle.gen)), (vi ((Aq r role c now).2.version)), (vi ((Aq r role c now).2.state))].toArray)].toArray) ∧ Dh w w2 B ∧ Dw B eI 1 a1 (Aq r role c now).1.slots.gens ∧ Dw B eB 1 a2 (Aq r role c now).1.slots.used ∧ Dw B eI 1 a3 (Aq r role c now).1.slots.free ∧ (Cx B Bu 8 DT a4 (Aq r role c now).1.l t4 ∧ (Aq r role c now).1.l.length ≤ c4) ∧ (Aq r role c now).1.slots.gens.length ≤ 1000 ∧ (Aq r role c now).1.slots.used.length ≤ 1000 ∧ (Aq r role c now).1.slots.free.length ≤ 1000 ∧ (Aq r role c now).1.l.length ≤ 1000 := by
 have h := rB w (r_Sg_a := r_Sg_a) (r_Sg_c := r_Sg_c) (r_Su_a := r_Su_a) (r_Su_c := r_Su_c) (r_Sf_a := r_Sf_a) (r_Sf_c := r_Sf_c) (r_l_a := r_l_a) (r_l_c := r_l_c) (r_l_t := r_l_t) (ea0 := ea0) (ea1 := ea1) (ea2 := ea2) (ea3 := ea3) (r := r) (role := role) (c := c) (now := now) h_r_Sg n_r_Sg h_r_Su n_r_Su h_r_Sf n_r_Sf h_r_l n_r_l k_r_l i_c_at_ hG hE hsm
 simp only [rA] at h
 exact h

end Go.Proofs.YtopjaeoklkpcpaaGreatDoor.Jd

namespace Go.Proofs.YtopjaeoklkpcpaaGreatDoor.Jd
open Go.Proofs.Tryz
open Go.Proofs
open Go.RowKit (Below)
set_option maxRecDepth 100000
set_option maxHeartbeats 8000000
set_option linter.unusedVariables false
set_option linter.unusedSimpArgs false
theorem wS (w : World) {ea0 : Addr} {ea1 : Addr} {ea2 : Addr} {ea3 : Addr} (hG : Gl w) (hE : Er w ea0 ea1 ea2 ea3) : Hn Tryz.prog 14 [] w (Value.bool eT) := by
 have hF := Is.refl eT
 refine enter func14 ntmps14 (h := ?_)
 refine cR ?_
 refine Gy (Ad call29) (fun w1 hw1 => sK w1 (n_ := 2)) (k := ?_)
 rintro w1_1 e1_1 w2_1 hw1_1 ⟨a1_1, c1_1, a2_1, c2_1, a3_1, c3_1, a4_1, c4_1, t4_1, B_1, he_1, hf_1, hs1_1, hs2_1, hs3_1, hs4_1, hl1_1, hl2_1, hl3_1, hl4_1⟩
 refine ⟨_, _, he_1, hw1_1.fresh hf_1, ?_⟩
 refine Ry ?_
 refine Ah Ag Wy (k := fun r1 hr1 => ?_)
 refine cZ ?_
 refine Xc ?_
 refine Vy ?_
 refine Au rfl (fun hq1 => ?_) (fun hq1 => ?_)
 ·refine Bg ?_
  refine Kz ?_
  refine Ab results14 z1 (fun w1 hw1 => ?_)
  exact ⟨(rq (hF.pos hq1)), hw1.ext_out⟩
 refine aY ?_
 refine lA ?_
 refine Af (Ef (cs := [_, _, _, _, _, _, _, _, _, _, _, _]) zeroValue36 AB0) (k := ?_)
 refine Gy (Ad call17) (fun w1 hw1 => Uq w1 (r := ((Cu 2).1)) (role := 3) (c := (Ak.mk 1 ([97, 99, 109, 101] : Ap) 0 0 (Bf.mk false (An.mk 0 0) (Al.mk 0 0)) ([107] : Ap) 100 0)) (now := 0) (h_r_Sg := (Dw.slj hs1_1) w1 hw1) (n_r_Sg := z6) (h_r_Su := (Dw.slj hs2_1) w1 hw1) (n_r_Su := z6) (h_r_Sf := (Dw.slj hs3_1) w1 hw1) (n_r_Sf := z6) (h_r_l := (Cx.j hs4_1.1 sh).2 w1 hw1) (n_r_l := z6) (k_r_l := hs4_1.2) (i_c_at_ := z52) (hG := hG.ext hw1.ext_out) (hE := hE.ext hw1.ext_out) (hsm := fF)) (k := ?_)
 rintro w1_2 e1_2 w2_2 hw1_2 ⟨a1_2, c1_2, a2_2, c2_2, a3_2, c3_2, a4_2, c4_2, t4_2, B_2, he_2, hf_2, hs1_2, hs2_2, hs3_2, hs4_2, hl1_2, hl2_2, hl3_2, hl4_2⟩
 refine ⟨_, _, he_2, hw1_2.fresh hf_2, ?_⟩
 have hap_6123 := Md 3 (Ak.mk 1 ([97, 99, 109, 101] : Ap) 0 0 (Bf.mk false (An.mk 0 0) (Al.mk 0 0)) ([107] : Ap) 100 0) 0 (by first | assumption | exact Bk.nil : Bk ((Cu 2).1.l))
 refine Ry ?_
 refine Ah Ag xG (k := fun r2 hr2 => ?_)
 refine Y4 ?_
 refine Me ?_
 refine Fk _ (sk (sa (sk (sx sz)))) ?_
 refine AE6 ?_
 refine Gy (Ad call17) (fun w1 hw1 => Uq w1 (r := ((Aq ((Cu 2).1) 3 (Ak.mk 1 ([97, 99, 109, 101] : Ap) 0 0 (Bf.mk false (An.mk 0 0) (Al.mk 0 0)) ([107] : Ap) 100 0) 0).1)) (role := 2) (c := (Ak.mk 2 ([97, 99, 109, 101] : Ap) 0 0 (Bf.mk false (An.mk 0 0) (Al.mk 0 0)) ([] : Ap) 0 0)) (now := 1) (h_r_Sg := (Dw.slj hs1_2) w1 hw1) (n_r_Sg := z6) (h_r_Su := (Dw.slj hs2_2) w1 hw1) (n_r_Su := z6) (h_r_Sf := (Dw.slj hs3_2) w1 hw1) (n_r_Sf := z6) (h_r_l := (Cx.j hs4_2.1 sh).2 w1 hw1) (n_r_l := z6) (k_r_l := hs4_2.2) (i_c_at_ := z52) (hG := hG.ext hw1.ext_out) (hE := hE.ext hw1.ext_out) (hsm := fF)) (k := ?_)
 rintro w1_3 e1_3 w2_3 hw1_3 ⟨a1_3, c1_3, a2_3, c2_3, a3_3, c3_3, a4_3, c4_3, t4_3, B_3, he_3, hf_3, hs1_3, hs2_3, hs3_3, hs4_3, hl1_3, hl2_3, hl3_3, hl4_3⟩
 refine ⟨_, _, he_3, hw1_3.fresh hf_3, ?_⟩
 have hap_40254 := Md 2 (Ak.mk 2 ([97, 99, 109, 101] : Ap) 0 0 (Bf.mk false (An.mk 0 0) (Al.mk 0 0)) ([] : Ap) 0 0) 1 (by first | assumption | exact Bk.nil : Bk ((Aq ((Cu 2).1) 3 (Ak.mk 1 ([97, 99, 109, 101] : Ap) 0 0 (Bf.mk false (An.mk 0 0) (Al.mk 0 0)) ([107] : Ap) 100 0) 0).1.l))
 refine Ry ?_
 refine Ah Ag xG (k := fun r3 hr3 => ?_)
 refine Y4 ?_
 refine Me ?_
 refine Fk _ (sk (sa (sk (sx (sk sz))))) ?_
 refine AE6 ?_
 refine Gy (Ad call17) (fun w1 hw1 => Uq w1 (r := ((Aq ((Aq ((Cu 2).1) 3 (Ak.mk 1 ([97, 99, 109, 101] : Ap) 0 0 (Bf.mk false (An.mk 0 0) (Al.mk 0 0)) ([107] : Ap) 100 0) 0).1) 2 (Ak.mk 2 ([97, 99, 109, 101] : Ap) 0 0 (Bf.mk false (An.mk 0 0) (Al.mk 0 0)) ([] : Ap) 0 0) 1).1)) (role := 2) (c := (Ak.mk 2 ([97, 99, 109, 101] : Ap) 0 0 (Bf.mk false (An.mk 0 0) (Al.mk 0 0)) ([] : Ap) 0 0)) (now := 2) (h_r_Sg := (Dw.slj hs1_3) w1 hw1) (n_r_Sg := z6) (h_r_Su := (Dw.slj hs2_3) w1 hw1) (n_r_Su := z6) (h_r_Sf := (Dw.slj hs3_3) w1 hw1) (n_r_Sf := z6) (h_r_l := (Cx.j hs4_3.1 sh).2 w1 hw1) (n_r_l := z6) (k_r_l := hs4_3.2) (i_c_at_ := z52) (hG := hG.ext hw1.ext_out) (hE := hE.ext hw1.ext_out) (hsm := fF)) (k := ?_)
 rintro w1_4 e1_4 w2_4 hw1_4 ⟨a1_4, c1_4, a2_4, c2_4, a3_4, c3_4, a4_4, c4_4, t4_4, B_4, he_4, hf_4, hs1_4, hs2_4, hs3_4, hs4_4, hl1_4, hl2_4, hl3_4, hl4_4⟩
 refine ⟨_, _, he_4, hw1_4.fresh hf_4, ?_⟩
 have hap_24697 := Md 2 (Ak.mk 2 ([97, 99, 109, 101] : Ap) 0 0 (Bf.mk false (An.mk 0 0) (Al.mk 0 0)) ([] : Ap) 0 0) 2 (by first | assumption | exact Bk.nil : Bk ((Aq ((Aq ((Cu 2).1) 3 (Ak.mk 1 ([97, 99, 109, 101] : Ap) 0 0 (Bf.mk false (An.mk 0 0) (Al.mk 0 0)) ([107] : Ap) 100 0) 0).1) 2 (Ak.mk 2 ([97, 99, 109, 101] : Ap) 0 0 (Bf.mk false (An.mk 0 0) (Al.mk 0 0)) ([] : Ap) 0 0) 1).1.l))
 refine Ry ?_
 refine Ah Ag xG (k := fun r4 hr4 => ?_)
 refine Y4 ?_
 refine Me ?_
 refine Fk _ (sk (sa (sk (sx (sk (sk sz)))))) ?_
 refine AE6 ?_
 refine Gy (Ad call17) (fun w1 hw1 => Uq w1 (r := ((Aq ((Aq ((Aq ((Cu 2).1) 3 (Ak.mk 1 ([97, 99, 109, 101] : Ap) 0 0 (Bf.mk false (An.mk 0 0) (Al.mk 0 0)) ([107] : Ap) 100 0) 0).1) 2 (Ak.mk 2 ([97, 99, 109, 101] : Ap) 0 0 (Bf.mk false (An.mk 0 0) (Al.mk 0 0)) ([] : Ap) 0 0) 1).1) 2 (Ak.mk 2 ([97, 99, 109, 101] : Ap) 0 0 (Bf.mk false (An.mk 0 0) (Al.mk 0 0)) ([] : Ap) 0 0) 2).1)) (role := 1) (c := (Ak.mk 5 ([97, 99, 109, 101] : Ap) 0 0 (Bf.mk false (An.mk 0 0) (Al.mk 0 0)) ([] : Ap) 0 0)) (now := 3) (h_r_Sg := (Dw.slj hs1_4) w1 hw1) (n_r_Sg := z6) (h_r_Su := (Dw.slj hs2_4) w1 hw1) (n_r_Su := z6) (h_r_Sf := (Dw.slj hs3_4) w1 hw1) (n_r_Sf := z6) (h_r_l := (Cx.j hs4_4.1 sh).2 w1 hw1) (n_r_l := z6) (k_r_l := hs4_4.2) (i_c_at_ := z52) (hG := hG.ext hw1.ext_out) (hE := hE.ext hw1.ext_out) (hsm := fF)) (k := ?_)
 rintro w1_5 e1_5 w2_5 hw1_5 ⟨a1_5, c1_5, a2_5, c2_5, a3_5, c3_5, a4_5, c4_5, t4_5, B_5, he_5, hf_5, hs1_5, hs2_5, hs3_5, hs4_5, hl1_5, hl2_5, hl3_5, hl4_5⟩
 refine ⟨_, _, he_5, hw1_5.fresh hf_5, ?_⟩
 have hap_55123 := Md 1 (Ak.mk 5 ([97, 99, 109, 101] : Ap) 0 0 (Bf.mk false (An.mk 0 0) (Al.mk 0 0)) ([] : Ap) 0 0) 3 (by first | assumption | exact Bk.nil : Bk ((Aq ((Aq ((Aq ((Cu 2).1) 3 (Ak.mk 1 ([97, 99, 109, 101] : Ap) 0 0 (Bf.mk false (An.mk 0 0) (Al.mk 0 0)) ([107] : Ap) 100 0) 0).1) 2 (Ak.mk 2 ([97, 99, 109, 101] : Ap) 0 0 (Bf.mk false (An.mk 0 0) (Al.mk 0 0)) ([] : Ap) 0 0) 1).1) 2 (Ak.mk 2 ([97, 99, 109, 101] : Ap) 0 0 (Bf.mk false (An.mk 0 0) (Al.mk 0 0)) ([] : Ap) 0 0) 2).1.l))
 refine Ry ?_
 refine Ah Ag xG (k := fun r5 hr5 => ?_)
 refine Y4 ?_
 refine Me ?_
 refine Fk _ (sk (sa (sk (sx (sk (sk (sk sz))))))) ?_
 refine lC ?_
 refine Gy (Ad call20) (fun w1 hw1 => nM w1 (r := ((Aq ((Aq ((Aq ((Aq ((Cu 2).1) 3 (Ak.mk 1 ([97, 99, 109, 101] : Ap) 0 0 (Bf.mk false (An.mk 0 0) (Al.mk 0 0)) ([107] : Ap) 100 0) 0).1) 2 (Ak.mk 2 ([97, 99, 109, 101] : Ap) 0 0 (Bf.mk false (An.mk 0 0) (Al.mk 0 0)) ([] : Ap) 0 0) 1).1) 2 (Ak.mk 2 ([97, 99, 109, 101] : Ap) 0 0 (Bf.mk false (An.mk 0 0) (Al.mk 0 0)) ([] : Ap) 0 0) 2).1) 1 (Ak.mk 5 ([97, 99, 109, 101] : Ap) 0 0 (Bf.mk false (An.mk 0 0) (Al.mk 0 0)) ([] : Ap) 0 0) 3).1)) (name := ([97, 99, 109, 101] : Ap)) (h_r_Sg := (Dw.slj hs1_5) w1 hw1) (n_r_Sg := z6) (h_r_Su := (Dw.slj hs2_5) w1 hw1) (n_r_Su := z6) (h_r_Sf := (Dw.slj hs3_5) w1 hw1) (n_r_Sf := z6) (h_r_l := (Cx.j hs4_5.1 sh).2 w1 hw1) (n_r_l := z6) (k_r_l := hs4_5.2) (hsm := fF)) (k := ?_)
 rintro w1_6 e1_6 w2_6 hw1_6 ⟨a1_6, c1_6, a2_6, c2_6, B1_6, B2_6, he_6, hf_6, ho1_6, ho2_6, hl1_6, hl2_6⟩
 refine ⟨_, _, he_6, (hw1_6.fresh hf_6).perm (eqp (nA rfl)), ?_⟩
 refine Ry ?_
 refine Ah Ag Ur (k := fun r6 hr6 => ?_)
 refine cY ?_
 refine Jr ?_
 refine Af z71 (k := ?_)
 refine Af z68 (k := ?_)
 refine Q4 ?_
 refine Af (mH (AB1 _ _ _ _ _ _ _ _ _ _ _ _ _ _)) (k := ?_)
 refine Cg ?_
 refine Ao 48 rfl (fun hq2 => ?_) (fun hq2 => ?_)
 rotate_left
 ·refine Ae 4 rfl ?_
  refine jH ?_
  refine jH ?_
  refine Rv ?_
  refine bR (k := ?_)
  refine jH ?_
  refine oV ?_
  refine Ky ?_
  refine Ab results14 z1 (fun w1 hw1 => ?_)
  exact ⟨(rq ((hF.neg hq1).neg hq2)), hw1.ext_out⟩
 refine Bb z71 (k := ?_)
 refine yL ?_
 refine AD8 ?_
 refine Pj ?_
 refine Ao 54 rfl (fun hq3 => ?_) (fun hq3 => ?_)
 rotate_left
 ·refine Ae 3 rfl ?_
  refine jH ?_
  refine Rv ?_
  refine bR (k := ?_)
  refine jH ?_
  refine oV ?_
  refine Ky ?_
  refine Ab results14 z1 (fun w1 hw1 => ?_)
  exact ⟨(rq (((hF.neg hq1).pos hq2).neg hq3)), hw1.ext_out⟩
 refine Bb z71 (k := ?_)
 refine AD8 ?_
 refine Pj ?_
 refine Ao 59 rfl (fun hq4 => ?_) (fun hq4 => ?_)
 rotate_left
 ·refine Ae 3 rfl ?_
  refine Rv ?_
  refine bR (k := ?_)
  refine jH ?_
  refine oV ?_
  refine Ky ?_
  refine Ab results14 z1 (fun w1 hw1 => ?_)
  exact ⟨(rq ((((hF.neg hq1).pos hq2).pos hq3).neg hq4)), hw1.ext_out⟩
 refine Bb z71 (k := ?_)
 refine AD8 ?_
 refine Pj ?_
 refine Ao 64 rfl (fun hq5 => ?_) (fun hq5 => ?_)
 rotate_left
 ·refine bR (k := ?_)
  refine jH ?_
  refine oV ?_
  refine Ky ?_
  refine Ab results14 z1 (fun w1 hw1 => ?_)
  exact ⟨(rq (((((hF.neg hq1).pos hq2).pos hq3).pos hq4).neg hq5)), hw1.ext_out⟩
 refine Hf ?_
 refine Pj ?_
 refine Di 67 rfl (fun hq6 => ?_) (fun hq6 => ?_)
 rotate_left
 ·refine Ae 3 rfl ?_
  refine oV ?_
  refine Ky ?_
  refine Ab results14 z1 (fun w1 hw1 => ?_)
  exact ⟨(rq ((((((hF.neg hq1).pos hq2).pos hq3).pos hq4).pos hq5).f hq6)), hw1.ext_out⟩
 refine lK ?_
 refine lV ?_
 refine Ao 72 rfl (fun hq7 => ?_) (fun hq7 => ?_)
 rotate_left
 ·refine Ae 2 rfl ?_
  refine Ky ?_
  refine Ab results14 z1 (fun w1 hw1 => ?_)
  exact ⟨(rq (((((((hF.neg hq1).pos hq2).pos hq3).pos hq4).pos hq5).t hq6).neg hq7)), hw1.ext_out⟩
 refine Bb K7 (k := ?_)
 refine Ih (Ad call23) (fun w1 hw1 => Ui w1 (r := ((Aq ((Aq ((Aq ((Aq ((Cu 2).1) 3 (Ak.mk 1 ([97, 99, 109, 101] : Ap) 0 0 (Bf.mk false (An.mk 0 0) (Al.mk 0 0)) ([107] : Ap) 100 0) 0).1) 2 (Ak.mk 2 ([97, 99, 109, 101] : Ap) 0 0 (Bf.mk false (An.mk 0 0) (Al.mk 0 0)) ([] : Ap) 0 0) 1).1) 2 (Ak.mk 2 ([97, 99, 109, 101] : Ap) 0 0 (Bf.mk false (An.mk 0 0) (Al.mk 0 0)) ([] : Ap) 0 0) 2).1) 1 (Ak.mk 5 ([97, 99, 109, 101] : Ap) 0 0 (Bf.mk false (An.mk 0 0) (Al.mk 0 0)) ([] : Ap) 0 0) 3).1)) (h_r_Sg := (Dw.slj hs1_5) w1 hw1) (n_r_Sg := z6) (h_r_Su := (Dw.slj hs2_5) w1 hw1) (n_r_Su := z6) (h_r_Sf := (Dw.slj hs3_5) w1 hw1) (n_r_Sf := z6) (h_r_l := (Cx.j hs4_5.1 sh).2 w1 hw1) (n_r_l := z6) (k_r_l := hs4_5.2) (hsm := fF)) (k := ?_)
 refine Vv ?_
 refine Ab results14 z1 (fun w1 hw1 => ?_)
 exact ⟨(rq (((((((hF.neg hq1).pos hq2).pos hq3).pos hq4).pos hq5).t hq6).pos hq7)), hw1.ext_out⟩

end Go.Proofs.YtopjaeoklkpcpaaGreatDoor.Jd

namespace Go.Proofs.YtopjaeoklkpcpaaGreatDoor.Jd
open Go.Proofs.Tryz
open Go.Proofs
open Go.RowKit (Below)
set_option maxRecDepth 100000
set_option maxHeartbeats 8000000
set_option linter.unusedVariables false
set_option linter.unusedSimpArgs false

theorem I9 (w : World) {r_Sg_a : Option Addr} {r_Sg_c : Nat} {r_Su_a : Option Addr} {r_Su_c : Nat} {r_Sf_a : Option Addr} {r_Sf_c : Nat} {r_l_a : Option Addr} {r_l_c : Nat} {r_l_t : List TA} {r : Ac} {now : Int} (h_r_Sg : Sl w eI 1 r_Sg_a r.slots.gens) (n_r_Sg : r.slots.gens.length ≤ 1000) (h_r_Su : Sl w eB 1 r_Su_a r.slots.used) (n_r_Su : r.slots.used.length ≤ 1000) (h_r_Sf : Sl w eI 1 r_Sf_a r.slots.free) (n_r_Sf : r.slots.free.length ≤ 1000) (h_r_l : Rm w Bu 8 DT r_l_a r.l r_l_t) (n_r_l : r.l.length ≤ 1000) (k_r_l : r.l.length ≤ r_l_c) (hsm : Bk r.l) : Calls Tryz.prog 22 (List.toArray [(Value.agg [(vs r_Sg_a r.slots.gens.length r_Sg_c), (vs r_Su_a r.slots.used.length r_Su_c), (vs r_Sf_a r.slots.free.length r_Sf_c), (vs r_l_a r.l.length r_l_c), (vi r.seq)].toArray), (vi now)]) w fun e w2 => ∃ a1 : Option Addr, ∃ c1 : Nat, ∃ a2 : Option Addr, ∃ c2 : Nat, ∃ a3 : Option Addr, ∃ c3 : Nat, ∃ a4 : Option Addr, ∃ c4 : Nat, ∃ t4 : List TA, ∃ B : Aj, e = .returned (Value.agg [(vs a1 ((Gp r now).slots.gens.length) c1), (vs a2 ((Gp r now).slots.used.length) c2), (vs a3 ((Gp r now).slots.free.length) c3), (vs a4 ((Gp r now).l.length) c4), (vi ((Gp r now).seq))].toArray) ∧ Dh w w2 B ∧ Dw B eI 1 a1 (Gp r now).slots.gens ∧ Dw B eB 1 a2 (Gp r now).slots.used ∧ Dw B eI 1 a3 (Gp r now).slots.free ∧ (Cx B Bu 8 DT a4 (Gp r now).l t4 ∧ (Gp r now).l.length ≤ c4) ∧ (Gp r now).slots.gens.length ≤ 1000 ∧ (Gp r now).slots.used.length ≤ 1000 ∧ (Gp r now).slots.free.length ≤ 1000 ∧ (Gp r now).l.length ≤ 1000 := by
 have hF := Is.refl (Gp r now)
 refine Wf func22 ntmps22 (h := ?_)
 refine Z2 ?_
 refine Ah Ag Vf (k := fun r1 hr1 => ?_)
 refine Ah Ag (Hi (l := [_])) (k := fun r2 hr2 => ?_)
 refine Ah Ag Wy (k := fun r3 hr3 => ?_)
 refine Me ?_
 refine AM3 ?_
 rintro w1_1 e1_1 w2_1 hw1_1 ⟨a1_1, c1_1, a2_1, c2_1, a3_1, c3_1, a4_1, c4_1, t4_1, B_1, he_1, hf_1, hs1_1, hs2_1, hs3_1, hs4_1, hl1_1, hl2_1, hl3_1, hl4_1⟩
 refine ⟨_, _, he_1, hw1_1.fresh hf_1, ?_⟩
 refine oQ ?_
 refine lA ?_
 refine Fu (Ad call23) (fun w1 hw1 => Ui w1 (r := r) (h_r_Sg := (Dw.slj hs1_1) w1 hw1) (n_r_Sg := by first | omega | (simp; done) | exact (hsm _ z2).1 | exact (hsm _ z2).2) (h_r_Su := (Dw.slj hs2_1) w1 hw1) (n_r_Su := by first | omega | (simp; done) | exact (hsm _ z2).1 | exact (hsm _ z2).2) (h_r_Sf := (Dw.slj hs3_1) w1 hw1) (n_r_Sf := by first | omega | (simp; done) | exact (hsm _ z2).1 | exact (hsm _ z2).2) (h_r_l := (Cx.j hs4_1.1 sh).2 w1 hw1) (n_r_l := by first | omega | (simp; done) | exact (hsm _ z2).1 | exact (hsm _ z2).2) (k_r_l := hs4_1.2) (hsm := by first | omega | (simp; done) | exact (hsm _ z2).1 | exact (hsm _ z2).2)) (k := ?_)
 refine Rj ?_
 refine Ct rfl (fun hq1 => ?_) (fun hq1 => ?_)
 ·refine Bg ?_
  refine lC ?_
  refine Z88 ?_
  refine Fl ?_
  refine Du [] (List.Perm.refl _) results22 rK (fun w1 hw1 => ?_)
  exact ⟨a1_1, c1_1, a2_1, c2_1, a3_1, c3_1, a4_1, c4_1, t4_1, B_1, (rq (hF.t hq1)), (Ba (L := B_1) (hw1.perm (List.Perm.refl _)) rfl.symm), (by rw [(hF.t hq1).eq]; exact (hs1_1.mono z8)), (by rw [(hF.t hq1).eq]; exact (hs2_1.mono z8)), (by rw [(hF.t hq1).eq]; exact (hs3_1.mono z8)), (by rw [(hF.t hq1).eq]; exact ⟨(hs4_1.1.mono sh), hs4_1.2⟩), (rl (hF.t hq1)), (rl (hF.t hq1)), (rl (hF.t hq1)), (rl (hF.t hq1))⟩
 have hfhq1 := Tc tC
 refine Js ?_
 refine xW ?_
 refine Z2 ?_
 refine Ah Ag Vf (k := fun r4 hr4 => ?_)
 refine fW ?_
 refine yE ?_
 refine Ij Ag rfl call85 func85 ntmps85 (fun l5 rD5 rr5 hl5 => ?_)
 refine oW ?_
 refine cO ?_
 refine Lq ?_
 refine bV (σ1 := Nat) (σ2 := Nat) (σ3 := List Aa) (σ4 := List TA) (σ5 := Option Addr) (σ6 := Nat) (σ7 := Int) (σ8 := Aj) (fun n_4 x_1 x_2 x_2t x_2a x_2c x_3 x_2B => (x_2B ++ ((l5, Df rr5 .ready none) :: ((rD5, Obj.deferred (some [])) :: ((r4, oc [(vs a1_1 r.slots.gens.length c1_1), (vs a2_1 r.slots.used.length c2_1), (vs a3_1 r.slots.free.length c3_1), (vs a4_1 r.l.length c4_1), (vi r.seq)] 28) :: (B_1 ++ ((r3, oc [(vs none 0 0), (vs none 0 0), (vs none 0 0), (vs none 0 0), (vi 0)] 28) :: ((r2, oc [(vi now)] 3) :: ((r1, oc [(vs a1_1 r.slots.gens.length c1_1), (vs a2_1 r.slots.used.length c2_1), (vs a3_1 r.slots.free.length c3_1), (vs x_2a x_2.length x_2c), (vi x_3)] 28) :: []))))))))) (fun n_4 x_1 x_2 x_2t x_2a x_2c x_3 x_2B => [(0, (Value.func (.yield l5) [].toArray [].toArray)), (1, (Value.pointer (some ⟨r4, 0, none⟩))), (6, (vs a4_1 r.l.length c4_1)), (7, (vi ((r.l.length : Nat) : Int))), (8, (vi ((x_1 : Nat) : Int)))]) (fun n_4 x_1 x_2 x_2t x_2a x_2c x_3 x_2B => r.l.length - x_1 < n_4 ∧ Is (Fr r now (r.l.length + 1) 0 r.l r.seq) (Fr r now n_4 x_1 x_2 x_3) ∧ (Cx (B_1 ++ x_2B) Bu 8 DT x_2a x_2 x_2t ∧ x_2.length ≤ x_2c) ∧ x_1 ≤ r.l.length ∧ x_2.length ≤ r.l.length + x_1 ∧ (r.seq ≤ x_3 ∧ x_3 ≤ 1000000000000)) (fun n_4 x_1 x_2 x_2t x_2a x_2c x_3 x_2B => n_4) (r.l.length + 1) 0 r.l t4_1 a4_1 c4_1 r.seq ([]) ?_ se oH ?_
 ·exact ⟨Nat.lt_succ_self _, Is.refl _, ⟨(hs4_1.1.mono sh), hs4_1.2⟩, Kh, Kh, Kh⟩
 ·rintro (_ | n_4) x_1 x_2 x_2t x_2a x_2c x_3 x_2B ⟨hm6, hF5, ⟨hx_2, hkx_2⟩, hi7, hi8, hi9⟩
  ·omega
  refine Zd ?_
  refine Au rfl (fun hq2 => ?_) (fun hq2 => ?_)
  rotate_left
  ·refine Ca ?_
   refine Pl ?_
   refine Kb (.inr rfl) results85 (qc q0) ?_
   refine Xb ?_
   refine bG ?_
   refine Du [rD5] (qa (qc q0)) results22 rK (fun w1 hw1 => ?_)
   exact ⟨a1_1, c1_1, a2_1, c2_1, a3_1, c3_1, x_2a, x_2c, x_2t, (B_1 ++ x_2B), (rq ((hF.f hq1).rn3 (hF5.neg hq2))), (Ba (L := (B_1 ++ x_2B)) (hw1.perm ((qb q0).trans (qd (qb (qb q0))))) (nA rfl).symm), (by rw [((hF.f hq1).rn3 (hF5.neg hq2)).eq]; exact (hs1_1.mono z8)), (by rw [((hF.f hq1).rn3 (hF5.neg hq2)).eq]; exact (hs2_1.mono z8)), (by rw [((hF.f hq1).rn3 (hF5.neg hq2)).eq]; exact (hs3_1.mono z8)), (by rw [((hF.f hq1).rn3 (hF5.neg hq2)).eq]; exact ⟨(hx_2.mono sh), hkx_2⟩), (rl ((hF.f hq1).rn3 (hF5.neg hq2))), (rl ((hF.f hq1).rn3 (hF5.neg hq2))), (rl ((hF.f hq1).rn3 (hF5.neg hq2))), (rl ((hF.f hq1).rn3 (hF5.neg hq2)))⟩
  refine fJ ?_
  refine Z4 ?_
  refine Af (Cb (n := r.l.length) runUnderlying26 sizeOf52 x_1 (Cx.j hs4_1.1 sh).sl (Cv hs4_1.1.1 z3) (Br hs4_1.1.1)) (k := ?_)
  refine Af (Cn isAgg52 sizeOf52 x_1 (Cx.j hs4_1.1 sh).sl (Cv hs4_1.1.1 z3)) (k := ?_)
  refine Ah Ag Ur (k := fun r6 hr6 => ?_)
  refine tU ?_
  refine Pk ?_
  refine yB ?_
  refine dO (vs := [(vi ((x_1 : Nat) : Int)), (Value.agg [(vi ((r.l.getD x_1 default).handle.slot)), (vi ((r.l.getD x_1 default).handle.gen)), (vt ((r.l.getD x_1 default).name)), (vi ((r.l.getD x_1 default).state)), (vi ((r.l.getD x_1 default).version)), (vs ((t4_1.getD x_1 default).ra) ((r.l.getD x_1 default).rules.length) ((t4_1.getD x_1 default).rc)), (vs ((t4_1.getD x_1 default).ca) ((r.l.getD x_1 default).creds.length) ((t4_1.getD x_1 default).cc)), (vi ((r.l.getD x_1 default).deadline)), (vi r.seq)].toArray)]) hl5 (qa (qc q0)) Eo ?_
  refine Fk _ (sk (sd (sa (sk (sk (sa (sk (sk (sk sz))))))))) ?_
  refine Cs ?_
  refine Ah Ag z56 (k := fun r7 hr7 => ?_)
  refine xU ?_
  refine Z95 ?_
  refine Z2 ?_
  refine Af z72 (k := ?_)
  refine Hx ?_
  refine Af (Ef (cs := [_, _, _, _, _, _, _, _, _, _, _, _, _, _, _, _, _, _, _, _, _, _]) zeroValue97 AA8) (k := ?_)
  refine Ah Ag (Hi (l := [_, _, _, _, _, _, _, _, _, _, _, _, _, _, _, _, _, _, _, _, _, _])) (k := fun r8 hr8 => ?_)
  refine Jq ?_
  refine Af dD (k := ?_)
  refine cV ?_
  refine gB ?_
  refine oR ?_
  refine Af Lc (k := ?_)
  refine Cg ?_
  refine Ao 29 rfl (fun hq3 => ?_) (fun hq3 => ?_)
  ·refine Ae 5 rfl ?_
   refine Uu ?_
   refine Uu ?_
   refine xB ?_
   refine yD ?_
   refine lU ?_
   refine Fv (qa q0) ?_
   refine Rj ?_
   refine bQ ?_
   refine Xb ?_
   refine N5 ?_
   refine Z81 ?_
   exact Ip n_4 (x_1 + 1) x_2 x_2t x_2a x_2c x_3 x_2B ⟨by omega, ((hF5.pos hq2).pos hq3), ⟨(hx_2.mono sh), hkx_2⟩, z2, z2, z2⟩ (Nat.lt_succ_self _) se oH
  refine jS ?_
  refine cL ?_
  refine Vz ?_
  refine tY ?_
  refine Ao 36 rfl (fun hq4 => ?_) (fun hq4 => ?_)
  ·refine Ae 3 rfl ?_
   refine Uu ?_
   refine xB ?_
   refine yD ?_
   refine lU ?_
   refine Fv (qa q0) ?_
   refine Rj ?_
   refine bQ ?_
   refine Xb ?_
   refine N5 ?_
   refine Z81 ?_
   exact Ip n_4 (x_1 + 1) x_2 x_2t x_2a x_2c x_3 x_2B ⟨by omega, (((hF5.pos hq2).neg hq3).pos hq4), ⟨(hx_2.mono sh), hkx_2⟩, z2, z2, z2⟩ (Nat.lt_succ_self _) se oH
  refine cM ?_
  refine Bb Ki (k := ?_)
  refine Rv ?_
  refine Ao 41 rfl (fun hq5 => ?_) (fun hq5 => ?_)
  ·refine Ae 3 rfl ?_
   refine xB ?_
   refine yD ?_
   refine lU ?_
   refine Fv (qa q0) ?_
   refine Rj ?_
   refine bQ ?_
   refine Xb ?_
   refine N5 ?_
   refine Z81 ?_
   exact Ip n_4 (x_1 + 1) x_2 x_2t x_2a x_2c x_3 x_2B ⟨by omega, ((((hF5.pos hq2).neg hq3).neg hq4).pos hq5), ⟨(hx_2.mono sh), hkx_2⟩, z2, z2, z2⟩ (Nat.lt_succ_self _) se oH
  refine Hf ?_
  refine bY (args := [_]) (Ad call50) func50 ntmps50 ?_
  refine Ut ?_
  refine Pk ?_
  refine Ns ?_
  refine oR ?_
  refine Af Lc (k := ?_)
  refine N2 ?_
  refine Ze ?_
  refine Au rfl (fun hq6 => ?_) (fun hq6 => ?_)
  ·refine Bg ?_
   refine Cs ?_
   refine fX ?_
   refine tQ ?_
   refine Cc results50 z1 ?_
   refine Bb (Rl (u := (Value.iface 120 (Value.agg [(vi 156)].toArray))) (v := Value.nilIface) (b := true) (fun w => by kernel_rfl)) (k := ?_)
   refine Qh ?_
   refine yD ?_
   refine lU ?_
   refine Fv (qa q0) ?_
   refine Rj ?_
   refine bQ ?_
   refine Xb ?_
   refine N5 ?_
   refine Z81 ?_
   exact Ip n_4 (x_1 + 1) x_2 x_2t x_2a x_2c x_3 x_2B ⟨by omega, (((((hF5.pos hq2).neg hq3).neg hq4).neg hq5).pos hq6), ⟨(hx_2.mono sh), hkx_2⟩, z2, z2, z2⟩ (Nat.lt_succ_self _) se oH
  refine aY ?_
  refine Pk ?_
  refine Cg ?_
  refine Ns ?_
  refine M1 ?_
  refine Ns ?_
  refine xM ?_
  refine Z0 ?_
  refine Vw ?_
  refine tQ ?_
  refine Cc results50 z1 ?_
  refine Bb (Rl (u := Value.nilIface) (v := Value.nilIface) (b := false) (fun w => by kernel_rfl)) (k := ?_)
  refine Qh ?_
  refine Gj rfl ?_
  refine Js ?_
  refine Fk _ (sk (sk (sd (sa (sk (sk (sa (sk (sk (sk sz)))))))))) ?_
  refine fQ ?_
  refine Ns ?_
  refine yA ?_
  have hver := Nl (r := r) tC (i := x_1) z2
  refine Zi ?_
  refine Ns ?_
  refine AD7 ?_
  refine Me ?_
  refine Fi Da 7 [(true, 0), (true, 1), (true, 2), (true, 3), (true, 4), (true, 5), (false, 6)] z4 ?_
  refine mB ?_
  refine jG ?_
  refine O6 ?_
  refine dL (Ad call51) (fun w1 hw1 => kR w1 (xs := x_2) (ts := x_2t) (x := (Aa.mk ((r.l.getD x_1 default).handle) ((r.l.getD x_1 default).name) 2 (((r.l.getD x_1 default).version) + 1) ((r.l.getD x_1 default).rules) ((r.l.getD x_1 default).creds) 0)) (v := (TA.mk ((t4_1.getD x_1 default).ra) ((t4_1.getD x_1 default).rc) ((t4_1.getD x_1 default).ca) ((t4_1.getD x_1 default).cc))) ((Cx.j hx_2 sh).2 w1 hw1) Ri hkx_2) (k := ?_)
  rintro w1_2 e1_2 w2_2 hw1_2 ⟨a1_2, c1_2, B1_2, he_2, hf_2, ho1_2⟩
  refine ⟨_, _, _, he_2, hf_2, rfl, ?_⟩
  have hdp7 : Bs (B_1 ++ (x_2B ++ [])) DT (Fp x_2 (Aa.mk ((r.l.getD x_1 default).handle) ((r.l.getD x_1 default).name) 2 (((r.l.getD x_1 default).version) + 1) ((r.l.getD x_1 default).rules) ((r.l.getD x_1 default).creds) 0)) (Wq x_2 x_2t (Aa.mk ((r.l.getD x_1 default).handle) ((r.l.getD x_1 default).name) 2 (((r.l.getD x_1 default).version) + 1) ((r.l.getD x_1 default).rules) ((r.l.getD x_1 default).creds) 0) (TA.mk ((t4_1.getD x_1 default).ra) ((t4_1.getD x_1 default).rc) ((t4_1.getD x_1 default).ca) ((t4_1.getD x_1 default).cc))) := Bs.put ((Bs.of hx_2).mono sh) (Bs.one (B := (B_1 ++ (x_2B ++ []))) (D := DT) (fun w hw => ⟨(hs4_1.1.at (m := x_1) z3 w (Em hw)).1, (hs4_1.1.at (m := x_1) z3 w (Em hw)).2.1, (hs4_1.1.at (m := x_1) z3 w (Em hw)).2.2.1, (hs4_1.1.at (m := x_1) z3 w (Em hw)).2.2.2⟩))
  have hpx_2 := Ni x_2 (Aa.mk ((r.l.getD x_1 default).handle) ((r.l.getD x_1 default).name) 2 (((r.l.getD x_1 default).version) + 1) ((r.l.getD x_1 default).rules) ((r.l.getD x_1 default).creds) 0)
  refine Gb ?_
  refine oQ ?_
  refine Fk _ (sa (sd (sk (sa (sk (sk (sa (sk (sk (sk sz)))))))))) ?_
  refine Cs ?_
  refine oP ?_
  refine Zi ?_
  refine N1 ?_
  refine oX ?_
  refine Fv (qc q0) ?_
  refine Rj ?_
  refine Xk ?_
  refine Ci _ (((((((((qa (qc (qc (qa (qa (qc (qa (qa q0)))))))).trans (qa (qa (qc (qc (qa (qa (qc (qa q0))))))))).trans (qa (qa (qa (qc (qc (qa (qa (qc q0))))))))).trans (qb (qb (qb (qb (qd (qd (qb (qb q0))))))))).trans (qc (qa (qa (qa (qa (qc (qc (qa q0))))))))).trans (qa (qc (qa (qa (qa (qa (qc (qc q0))))))))).trans (qa (qa (qc (qa (qa (qa q0))))))).trans (qb (qb (qb (qd (qb (qb (qb (qd q0))))))))).trans (qd (qb (qb (qb (qd (qb (qb (qb q0))))))))) ?_
  exact Ip n_4 (x_1 + 1) (Fp x_2 (Aa.mk ((r.l.getD x_1 default).handle) ((r.l.getD x_1 default).name) 2 (((r.l.getD x_1 default).version) + 1) ((r.l.getD x_1 default).rules) ((r.l.getD x_1 default).creds) 0)) (Wq x_2 x_2t (Aa.mk ((r.l.getD x_1 default).handle) ((r.l.getD x_1 default).name) 2 (((r.l.getD x_1 default).version) + 1) ((r.l.getD x_1 default).rules) ((r.l.getD x_1 default).creds) 0) (TA.mk ((t4_1.getD x_1 default).ra) ((t4_1.getD x_1 default).rc) ((t4_1.getD x_1 default).ca) ((t4_1.getD x_1 default).cc))) a1_2 c1_2 (x_3 + 1) (B1_2 ++ x_2B) ⟨by omega, (((((hF5.pos hq2).neg hq3).neg hq4).neg hq5).neg hq6), ⟨((Bi.nb (U := (B1_2 ++ (B_1 ++ (x_2B ++ [])))) Av ho1_2 hdp7 (hB := sh) (hR := sh)).mono sh), (by have h0 := ho1_2.le'; rwa [Br hdp7.1] at h0)⟩, z2, z2, z2⟩ (Nat.lt_succ_self _) se oH

end Go.Proofs.YtopjaeoklkpcpaaGreatDoor.Jd

namespace Go.Proofs.YtopjaeoklkpcpaaGreatDoor.Jd
open Go.Proofs.Tryz
open Go.Proofs
set_option linter.unusedVariables false
set_option linter.unusedSimpArgs false
theorem Vs (r : Ac) (s : Ap) : ∀ n i, Bn (Hv r s n i) (fun r => r) (fun _ => (-1 : Int)) < r.l.length
  | 0, i => by show (-1 : Int) < _; omega
  | n + 1, i => by
    unfold Hv
    by_cases h : ((i : Nat) : Int) < ((r.l.length : Nat) : Int)
    · rw [if_pos h]
      by_cases h2 : (r.l.getD i default).name = s
      · rw [if_pos h2]; exact h
      · rw [if_neg h2]; exact Vs r s n (i + 1)
    · rw [if_neg h]; show (-1 : Int) < _; omega
theorem rC (r : Ac) (s : Ap) : Cw r s < r.l.length := Vs r s _ 0
theorem rE (n : Int) : Bk (Cu n).1.l := Bk.nil
theorem oC (n : Int) : Bk (Eu n).1.l := Bk.nil
theorem J0 (n : Int) : (Cu n).1.l.length = 0 := rfl
theorem wT (n : Int) : (Eu n).1.l.length = 0 := rfl
theorem oD (n : Int) : (Eu n).1.slots.gens.length ≤ 64 ∧ (Eu n).1.slots.used.length ≤ 64 ∧ (Eu n).1.slots.free.length ≤ 64 := iV n
theorem Tm (r : Ac) (i : Nat) : ∀ n k, i < k + n → k ≤ i → (Bn (Gx r i n k) (fun r => r) (fun _ => true) = true ↔ ∀ j, k ≤ j → j < i → (r.l.getD j default).name ≠ (r.l.getD i default).name)
  | 0, k, h, h2 => by omega
  | n + 1, k, h, h2 => by
    unfold Gx
    by_cases hk : ((k : Nat) : Int) < ((i : Nat) : Int)
    · rw [if_pos hk]
      by_cases e : (r.l.getD k default).name = (r.l.getD i default).name
      · rw [if_pos e]
        exact ⟨fun h => (by cases h), fun h => absurd e (h k (Nat.le_refl _) z2)⟩
      · rw [if_neg e, Tm r i n (k + 1) z2 z2]
        refine ⟨fun h j h3 h4 => ?_, fun h j h3 h4 => h j z2 h4⟩
        by_cases hj : j = k
        · subst hj; exact e
        · exact h j z2 h4
    · rw [if_neg hk]
      exact ⟨fun _ j h3 h4 => by omega, fun _ => rfl⟩
def AS9 (r : Ac) (i : Nat) : Prop := ((r.l.getD i default).handle = (Il r.slots).getD i default ∧ Nj (r.l.getD i default) r.seq = true) ∧ ∀ j, j < i → (r.l.getD j default).name ≠ (r.l.getD i default).name
theorem Tn (r : Ac) : ∀ n i, r.l.length < i + n → i ≤ r.l.length → (Bn (Jb r n i) (fun r => r) (fun _ => true) = true ↔ ∀ k, i ≤ k → k < r.l.length → AS9 r k)
  | 0, i, h, h2 => by omega
  | n + 1, i, h, h2 => by
    unfold Jb
    by_cases hi : ((i : Nat) : Int) < ((r.l.length : Nat) : Int)
    · rw [if_pos hi]
      have hh : ((r.l.getD i default).handle.slot = ((Il r.slots).getD i default).slot ∧ (r.l.getD i default).handle.gen = ((Il r.slots).getD i default).gen) ↔ (r.l.getD i default).handle = (Il r.slots).getD i default := by
        generalize (r.l.getD i default).handle = a
        generalize (Il r.slots).getD i default = b
        cases a; cases b; simp
      by_cases e : (r.l.getD i default).handle.slot = ((Il r.slots).getD i default).slot ∧ (r.l.getD i default).handle.gen = ((Il r.slots).getD i default).gen
      · rw [if_neg (fun h => h e)]
        by_cases t : Nj (r.l.getD i default) r.seq = true
        · rw [if_neg (by rw [t]; simp)]
          have h1 := Tm r i (i + 1) 0 z2 z2
          cases hx : Gx r i (i + 1) 0 with
          | error b =>
            rw [hx] at h1
            have hb : b = false := by
              have : ∀ n k b, Gx r i n k = .error b → b = false := by
                intro n
                induction n with
                | zero => intro k b h; cases h
                | succ n ih =>
                  intro k b h
                  unfold Gx at h
                  split at h
                  · split at h
                    · cases h; rfl
                    · exact ih _ _ h
                  · cases h
              exact this _ _ _ hx
            subst hb
            refine ⟨fun h => (by cases h), fun h => ?_⟩
            exact absurd (h1.2 fun j _ h3 => (h i (Nat.le_refl _) z2).2 j h3) (by simp [Bn])
          | ok v =>
            rw [hx] at h1
            have h2' := h1.1 rfl
            show (Bn (Jb r n (i + 1)) (fun r => r) (fun _ => true) = true) ↔ _
            rw [Tn r n (i + 1) z2 z2]
            refine ⟨fun h k h3 h4 => ?_, fun h k h3 h4 => h k z2 h4⟩
            by_cases hk : k = i
            · subst hk; exact ⟨⟨hh.1 e, t⟩, fun j hj => h2' j (Nat.zero_le _) hj⟩
            · exact h k z2 h4
        · rw [if_pos (by simpa using t)]
          exact ⟨fun h => (by cases h), fun h => absurd (h i (Nat.le_refl _) z2).1.2 t⟩
      · rw [if_pos e]
        exact ⟨fun h => (by cases h), fun h => absurd (hh.2 (h i (Nat.le_refl _) z2).1.1) e⟩
    · rw [if_neg hi]
      exact ⟨fun _ k h3 h4 => by omega, fun _ => rfl⟩
theorem Yy {l : List Aa} : (l.map Aa.name).Nodup ↔ ∀ k, k < l.length → ∀ j, j < k → (l.getD j default).name ≠ (l.getD k default).name := by
  constructor
  · intro h k hk j hj e
    have := I6 h (i := j) (j := k) z2 hk e
    omega
  · intro h
    rw [List.Nodup, List.pairwise_iff_getElem]
    intro i j hi hj hij
    have hi' : i < l.length := by simpa using hi
    have hj' : j < l.length := by simpa using hj
    have := h j hj' i hij
    simpa [List.getD, hi', hj'] using this
theorem Tp {r : Ac} : Hl r = true ↔ Ev r := by
  have hl0 := Tn r (r.l.length + 1) 0 z2 z2
  unfold Hl
  rw [← aA]
  have hal := X5 r.slots
  constructor
  · intro h
    split at h
    · cases h
    rename_i h1
    split at h
    · cases h
    split at h
    · cases h
    split at h
    · cases h
    rename_i h2 h3 h4
    have g := hl0.1 h
    refine ⟨by simpa using h1, ⟨by omega, by omega⟩, ?_, Yy.2 fun k hk j hj => (g k z2 hk).2 j hj, fun t ht => ?_⟩
    · rw [hal]; exact (Qg z2).1 fun k hk => (g k z2 hk).1.1
    · obtain ⟨k, hk, rfl⟩ := List.getElem_of_mem ht
      have := Yt.1 (g k z2 hk).1.2
      simpa [List.getD, hk] using this
  · rintro ⟨h1, h2, h3, h4, h5⟩
    have hl : (Dx r.slots).length = r.l.length := by rw [← h3]; simp
    rw [h1, if_neg Hb, if_neg z2, if_neg z2, if_neg (by rw [← hal]; omega)]
    refine hl0.2 fun k _ hk => ⟨⟨?_, Yt.2 (h5 _ ?_)⟩, fun j hj => Yy.1 h4 k hk j hj⟩
    · rw [← hal]; exact (Qg hl).2 h3 k hk
    · rw [List.getD_eq_getElem?_getD, List.getElem?_eq_getElem hk]; exact List.getElem_mem hk
theorem Ww (r : Ac) : Hl r = Ga r := by
  rw [Bool.eq_iff_iff, Tp, Nk]
theorem oE {r : Ac} (h : Hl r = true) : r.seq ≤ r.seq ∧ 0 ≤ r.seq ∧ r.seq ≤ 1000000000000 := by
  rw [Ww] at h
  have := Tc h
  omega
theorem Cx.off {α β : Type} [Inhabited α] [Inhabited β] {enc : α × β → List Value} {k : Nat} {D : World → α → β → Prop} {a : Option Addr} {xs : List α} {ts : List β} {B : Aj} (h : Cx B enc k D a xs ts) (lo c : Nat) (hc : xs.length ≤ c) : Cx B enc k D (Ju a k lo c) (xs.drop lo) (ts.drop lo) := ⟨by rw [List.length_drop, List.length_drop, h.1], fun w hw => (h.2 w hw).off lo c hc⟩
theorem AT0 {α β : Type} {a b : List α} {c d : List β} (h : c.length = a.length) (k : d.length = b.length) : (c ++ d).length = (a ++ b).length := by rw [List.length_append, List.length_append, h, k]
def Dm (l : List Aa) (b : Int) : Prop := ∀ i, (l.getD i default).version ≤ b ∧ 0 ≤ (l.getD i default).version
theorem Dm.of_right {r : Ac} (h : Hl r = true) : Dm r.l 1000000000000 := fun i => by
  rw [Ww] at h
  have h2 := Tc h
  by_cases hi : i < r.l.length
  · have := Nl h hi; omega
  · rw [List.getD_eq_getElem?_getD, List.getElem?_eq_none z2]; exact ⟨by show (0 : Int) ≤ _; omega, by show (0 : Int) ≤ 0; omega⟩
theorem wU {r : Ac} (h : Hl r = true) : ((0 ≤ r.seq ∧ r.seq ≤ 1000000000000)) ∧ Dm r.l 1000000000000 := ⟨(oE h).2, Dm.of_right h⟩
theorem Dm.mono {l : List Aa} {a b : Int} (h : Dm l a) (hab : a ≤ b) : Dm l b := fun i => by have := h i; omega
theorem Dm.put {l : List Aa} {a : Int} (h : Dm l a) (i : Nat) (x : Aa) (hi : i < l.length) (hx : x.version = (l.getD i default).version + 1) (k : Nat) (hk : k = i + 1) : Dm ((l.take i ++ [x]) ++ l.drop k) (a + 1) := fun j => by
  subst hk
  have hi2 := h i
  rw [List.getD_eq_getElem?_getD, List.append_assoc]
  by_cases h1 : j < i
  · rw [List.getElem?_append_left (by rw [List.length_take]; omega), List.getElem?_take_of_lt h1, ← List.getD_eq_getElem?_getD]
    have := h j; omega
  · by_cases h2 : j = i
    · subst h2
      rw [List.getElem?_append_right (by rw [List.length_take]; omega), List.length_take, show j - min j l.length = 0 by omega]
      show x.version ≤ _ ∧ 0 ≤ x.version
      omega
    · rw [List.getElem?_append_right (by rw [List.length_take]; omega), List.length_take, show j - min i l.length = (j - i - 1) + 1 by omega]
      have e1 : ([x] ++ l.drop (i + 1))[j - i - 1 + 1]? = l[j]? := by
        rw [List.singleton_append, List.getElem?_cons_succ, List.getElem?_drop, show i + 1 + (j - i - 1) = j by omega]
      rw [e1, ← List.getD_eq_getElem?_getD]
      have := h j; omega
theorem Dd {α : Type} {l : List α} {i : Nat} {x : α} (hi : i < l.length) (k : Nat) (hk : k = i + 1) : ((l.take i ++ [x]) ++ l.drop k).length = l.length := by
  subst hk; simp; omega
theorem Bk.put2 {l : List Aa} (h : Bk l) (i k : Nat) {x : Aa} (hx : x.rules = (l.getD i default).rules ∧ x.creds = (l.getD i default).creds) : Bk ((l.take i ++ [x]) ++ l.drop k) :=
  ((h.take i).append (Bk.one (by rw [hx.1]; exact (h.at i).1) (by rw [hx.2]; exact (h.at i).2))).append (h.drop k)
end Go.Proofs.YtopjaeoklkpcpaaGreatDoor.Jd

namespace Go.Proofs.YtopjaeoklkpcpaaGreatDoor.Jd
open Go.Proofs.Tryz
open Go.Proofs
open Go.RowKit (Below)
set_option maxRecDepth 100000
set_option maxHeartbeats 8000000
set_option linter.unusedVariables false
set_option linter.unusedSimpArgs false
theorem Yz (w : World) {r_Sg_a : Option Addr} {r_Sg_c : Nat} {r_Su_a : Option Addr} {r_Su_c : Nat} {r_Sf_a : Option Addr} {r_Sf_c : Nat} {r_l_a : Option Addr} {r_l_c : Nat} {r_l_t : List TA} {q_Sg_a : Option Addr} {q_Sg_c : Nat} {q_Su_a : Option Addr} {q_Su_c : Nat} {q_Sf_a : Option Addr} {q_Sf_c : Nat} {q_l_a : Option Addr} {q_l_c : Nat} {q_l_t : List TA} {ea0 : Addr} {ea1 : Addr} {ea2 : Addr} {ea3 : Addr} {r : Ac} {q : Ac} {n_ : Int} {s : Ap} (h_r_Sg : Sl w eI 1 r_Sg_a r.slots.gens) (k_r_Sg : r.slots.gens.length ≤ r_Sg_c) (h_r_Su : Sl w eB 1 r_Su_a r.slots.used) (k_r_Su : r.slots.used.length ≤ r_Su_c) (h_r_Sf : Sl w eI 1 r_Sf_a r.slots.free) (k_r_Sf : r.slots.free.length ≤ r_Sf_c) (h_r_l : Rm w Bu 8 DT r_l_a r.l r_l_t) (k_r_l : r.l.length ≤ r_l_c) (h_q_Sg : Sl w eI 1 q_Sg_a q.slots.gens) (k_q_Sg : q.slots.gens.length ≤ q_Sg_c) (h_q_Su : Sl w eB 1 q_Su_a q.slots.used) (k_q_Su : q.slots.used.length ≤ q_Su_c) (h_q_Sf : Sl w eI 1 q_Sf_a q.slots.free) (k_q_Sf : q.slots.free.length ≤ q_Sf_c) (h_q_l : Rm w Bu 8 DT q_l_a q.l q_l_t) (k_q_l : q.l.length ≤ q_l_c) (hG : Gl w) (hE : Er w ea0 ea1 ea2 ea3) : Hn Tryz.prog 12 [(Value.agg [(vs r_Sg_a r.slots.gens.length r_Sg_c), (vs r_Su_a r.slots.used.length r_Su_c), (vs r_Sf_a r.slots.free.length r_Sf_c), (vs r_l_a r.l.length r_l_c), (vi r.seq)].toArray), (Value.agg [(vs q_Sg_a q.slots.gens.length q_Sg_c), (vs q_Su_a q.slots.used.length q_Su_c), (vs q_Sf_a q.slots.free.length q_Sf_c), (vs q_l_a q.l.length q_l_c), (vi q.seq)].toArray), (vi n_), (vt s)] w (Value.bool (Hw r q n_ s)) := by
 have hF := Is.refl (Hw r q n_ s)
 refine enter func12 ntmps12 (h := ?_)
 refine Z2 ?_
 refine Ah Ag Vf (k := fun r1 hr1 => ?_)
 refine Ah Ag Vf (k := fun r2 hr2 => ?_)
 refine Jr ?_
 refine Fu (Ad call14) (fun w1 hw1 => wS w1 (hG := hG.ext hw1.ext_out) (hE := hE.ext hw1.ext_out)) (k := ?_)
 refine Z1 ?_
 refine lA ?_
 refine Gy (Ad call15) (fun w1 hw1 => sV w1 (r := r) (h_r_Sg := (Bp.of_base h_r_Sg) w1 hw1) (k_r_Sg := Ey) (h_r_Su := (Bp.of_base h_r_Su) w1 hw1) (k_r_Su := Ey) (h_r_Sf := (Bp.of_base h_r_Sf) w1 hw1) (k_r_Sf := Ey) (h_r_l := (Ds.of_base Dc h_r_l).2 w1 hw1) (k_r_l := k_r_l)) (k := ?_)
 rintro w1_1 e1_1 w2_1 hw1_1 ⟨a1_1, c1_1, t1_1, B_1, he_1, hf_1, hs1_1, hl1_1⟩
 refine ⟨_, _, he_1, hw1_1.fresh hf_1, ?_⟩
 have hcb_1 := sU r
 have hsm_1 := Rc r
 refine oQ ?_
 refine lA ?_
 refine Gy (Ad call15) (fun w1 hw1 => sV w1 (r := q) (h_r_Sg := (Bp.of_base h_q_Sg) w1 hw1) (k_r_Sg := Ey) (h_r_Su := (Bp.of_base h_q_Su) w1 hw1) (k_r_Su := Ey) (h_r_Sf := (Bp.of_base h_q_Sf) w1 hw1) (k_r_Sf := Ey) (h_r_l := (Ds.of_base Dc h_q_l).2 w1 hw1) (k_r_l := k_q_l)) (k := ?_)
 rintro w1_2 e1_2 w2_2 hw1_2 ⟨a1_2, c1_2, t1_2, B_2, he_2, hf_2, hs1_2, hl1_2⟩
 refine ⟨_, _, he_2, hw1_2.fresh hf_2, ?_⟩
 have hcb_2 := sU q
 have hsm_2 := Rc q
 refine oQ ?_
 refine Pk ?_
 refine yO ?_
 refine Af aD (k := ?_)
 refine Af (dN (s := s) ((if 100 < ((s.length : Nat) : Int) then 100 else ((s.length : Nat) : Int)).toNat) runUnderlying9 z2) (k := ?_)
 have hsb1 : (s.take ((if 100 < ((s.length : Nat) : Int) then 100 else ((s.length : Nat) : Int)).toNat)).length = ((if 100 < ((s.length : Nat) : Int) then 100 else ((s.length : Nat) : Int)).toNat) := by first | omega | (simp only [List.length_take, List.length_drop, List.length_cons, List.length_nil] <;> omega)
 refine Jq ?_
 refine Gy (Ad call29) (fun w1 hw1 => sK w1 (n_ := n_)) (k := ?_)
 rintro w1_3 e1_3 w2_3 hw1_3 ⟨a1_3, c1_3, a2_3, c2_3, a3_3, c3_3, a4_3, c4_3, t4_3, B_3, he_3, hf_3, hs1_3, hs2_3, hs3_3, hs4_3, hl1_3, hl2_3, hl3_3, hl4_3⟩
 refine ⟨_, _, he_3, hw1_3.fresh hf_3, ?_⟩
 have hgw_88102 := rE n_
 have hgl_88102 := J0 n_
 refine Ry ?_
 refine Ah Ag Wy (k := fun r3 hr3 => ?_)
 refine cZ ?_
 refine Jq ?_
 refine Gy (Ad call30) (fun w1 hw1 => H8 w1 (n_ := n_)) (k := ?_)
 rintro w1_4 e1_4 w2_4 hw1_4 ⟨a1_4, c1_4, a2_4, c2_4, a3_4, c3_4, a4_4, c4_4, t4_4, B_4, he_4, hf_4, hs1_4, hs2_4, hs3_4, hs4_4⟩
 refine ⟨_, _, he_4, hw1_4.fresh hf_4, ?_⟩
 have hrw_15755 := oC n_
 have hrl_15755 := wT n_
 have hrs_15755 := oD n_
 refine Ry ?_
 refine Ah Ag Wy (k := fun r4 hr4 => ?_)
 refine cZ ?_
 refine Z1 ?_
 refine lA ?_
 refine Cg ?_
 refine Gy (Ad call20) (fun w1 hw1 => nM w1 (r := (Bj r)) (name := (s.take ((if 100 < ((s.length : Nat) : Int) then 100 else ((s.length : Nat) : Int)).toNat))) (h_r_Sg := (Bp.take rM _) w1 hw1) (n_r_Sg := z0) (h_r_Su := (Bp.take rN _) w1 hw1) (n_r_Su := z0) (h_r_Sf := (Bp.take rL _) w1 hw1) (n_r_Sf := z0) (h_r_l := (Cx.j hs1_1.1 sh).2 w1 hw1) (n_r_l := z0) (k_r_l := hs1_1.2) (hsm := fF)) (k := ?_)
 rintro w1_5 e1_5 w2_5 hw1_5 ⟨a1_5, c1_5, a2_5, c2_5, B1_5, B2_5, he_5, hf_5, ho1_5, ho2_5, hl1_5, hl2_5⟩
 refine ⟨_, _, he_5, (hw1_5.fresh hf_5).perm (eqp (nA rfl)), ?_⟩
 have hfv_41700 := wK (Bj r) (s.take ((if 100 < ((s.length : Nat) : Int) then 100 else ((s.length : Nat) : Int)).toNat))
 refine Ry ?_
 refine Ah Ag Ur (k := fun r5 hr5 => ?_)
 refine cY ?_
 refine Rw ?_
 refine F8 (σ1 := Bool) (σ2 := Int) (σ3 := Int) (σ4 := Ap) (σ5 := Int) (σ6 := Int) (σ7 := List Bf) (σ8 := Option Addr) (σ9 := Nat) (σ10 := List Bw) (σ11 := Option Addr) (σ12 := Nat) (σ13 := Int) (σ14 := Aj) (σ15 := Nat) (fun is_1 x_2 x_3 x_4 x_5 x_6 x_7 x_7a x_7c x_8 x_8a x_8c x_9 x_7B r8 => (x_7B ++ ((r8, oc [(vi x_2), (vi x_3), (vt x_4), (vi x_5), (vi x_6), (vs x_7a x_7.length x_7c), (vs x_8a x_8.length x_8c), (vi x_9)] 52) :: ((r5, oc [(vi ((Ee (Bj r) (s.take ((if 100 < ((s.length : Nat) : Int) then 100 else ((s.length : Nat) : Int)).toNat))).1.handle.slot)), (vi ((Ee (Bj r) (s.take ((if 100 < ((s.length : Nat) : Int) then 100 else ((s.length : Nat) : Int)).toNat))).1.handle.gen)), (Value.string (bs ((Ee (Bj r) (s.take ((if 100 < ((s.length : Nat) : Int) then 100 else ((s.length : Nat) : Int)).toNat))).1.name))), (vi ((Ee (Bj r) (s.take ((if 100 < ((s.length : Nat) : Int) then 100 else ((s.length : Nat) : Int)).toNat))).1.state)), (vi ((Ee (Bj r) (s.take ((if 100 < ((s.length : Nat) : Int) then 100 else ((s.length : Nat) : Int)).toNat))).1.version)), (vs a1_5 ((Ee (Bj r) (s.take ((if 100 < ((s.length : Nat) : Int) then 100 else ((s.length : Nat) : Int)).toNat))).1.rules.length) c1_5), (vs a2_5 ((Ee (Bj r) (s.take ((if 100 < ((s.length : Nat) : Int) then 100 else ((s.length : Nat) : Int)).toNat))).1.creds.length) c2_5), (vi ((Ee (Bj r) (s.take ((if 100 < ((s.length : Nat) : Int) then 100 else ((s.length : Nat) : Int)).toNat))).1.deadline))] 52) :: (B1_5 ++ (B2_5 ++ ((r4, oc [(vs a1_4 ((Eu n_).1.slots.gens.length) c1_4), (vs a2_4 ((Eu n_).1.slots.used.length) c2_4), (vs a3_4 ((Eu n_).1.slots.free.length) c3_4), (vs a4_4 ((Eu n_).1.l.length) c4_4), (vi ((Eu n_).1.seq))] 28) :: (B_4 ++ ((r3, oc [(vs a1_3 ((Cu n_).1.slots.gens.length) c1_3), (vs a2_3 ((Cu n_).1.slots.used.length) c2_3), (vs a3_3 ((Cu n_).1.slots.free.length) c3_3), (vs a4_3 ((Cu n_).1.l.length) c4_3), (vi ((Cu n_).1.seq))] 28) :: (B_3 ++ (B_2 ++ (B_1 ++ ((r2, oc [(vs q_Sg_a ((Bj q).slots.gens.length) q_Sg_c), (vs q_Su_a ((Bj q).slots.used.length) q_Su_c), (vs q_Sf_a ((Bj q).slots.free.length) q_Sf_c), (vs a1_2 ((Bj q).l.length) c1_2), (vi ((Bj q).seq))] 28) :: ((r1, oc [(vs r_Sg_a ((Bj r).slots.gens.length) r_Sg_c), (vs r_Su_a ((Bj r).slots.used.length) r_Su_c), (vs r_Sf_a ((Bj r).slots.free.length) r_Sf_c), (vs a1_1 ((Bj r).l.length) c1_1), (vi ((Bj r).seq))] 28) :: [])))))))))))))) (fun is_1 x_2 x_3 x_4 x_5 x_6 x_7 x_7a x_7c x_8 x_8a x_8c x_9 x_7B r8 => [(2, (vi n_)), (4, (Value.pointer (some ⟨r1, 0, none⟩))), (5, (Value.pointer (some ⟨r2, 0, none⟩))), (8, (Value.bool false)), (9, (Value.bool eT)), (10, (Value.pointer (some ⟨r3, 0, none⟩))), (11, (vi ((Cu n_).2))), (12, (Value.pointer (some ⟨r4, 0, none⟩))), (13, (vi ((Eu n_).2))), (14, (Value.pointer (some ⟨r5, 0, none⟩))), (15, (Value.bool ((Ee (Bj r) (s.take ((if 100 < ((s.length : Nat) : Int) then 100 else ((s.length : Nat) : Int)).toNat))).2))), (16, (Value.pointer (some ⟨r8, 0, none⟩))), (17, (Value.bool is_1))]) (fun is_1 x_2 x_3 x_4 x_5 x_6 x_7 x_7a x_7c x_8 x_8a x_8c x_9 x_7B r8 => Is (Is.xr9 hF) (is_1, x_2, x_3, x_4, x_5, x_6, x_7, x_8, x_9) ∧ Je (B_1 ++ x_7B) Et 5 x_7a x_7c x_7 ∧ Je (B_1 ++ x_7B) Fq 4 x_8a x_8c x_8 ∧ x_7.length ≤ 1000 ∧ x_8.length ≤ 1000) ?_ ?_
 ·skip
  refine lC ?_
  refine Cg ?_
  refine Fa (args := [_, _]) (Ad call31) func31 ntmps31 ?_
  refine Z2 ?_
  refine Ah Ag Vf (k := fun r6 hr6 => ?_)
  refine Ah Ag Ur (k := fun r7 hr7 => ?_)
  refine Z1 ?_
  refine lA ?_
  refine Cg ?_
  refine Fu (Ad call66) (fun w1 hw1 => qR w1 (r := (Bj r)) (s := (s.take ((if 100 < ((s.length : Nat) : Int) then 100 else ((s.length : Nat) : Int)).toNat))) (h_r_Sg := (Bp.take rM _) w1 hw1) (n_r_Sg := z6) (h_r_Su := (Bp.take rN _) w1 hw1) (n_r_Su := z6) (h_r_Sf := (Bp.take rL _) w1 hw1) (n_r_Sf := z6) (h_r_l := (Cx.j hs1_1.1 sh).2 w1 hw1) (n_r_l := z6) (k_r_l := hs1_1.2)) (k := ?_)
  have hpl_4353 := rC (Bj r) (s.take ((if 100 < ((s.length : Nat) : Int) then 100 else ((s.length : Nat) : Int)).toNat))
  refine Xc ?_
  refine Z9 ?_
  refine Au rfl (fun hq1 => ?_) (fun hq1 => ?_)
  ·refine Bg ?_
   refine Cs ?_
   refine AP7 ?_
   refine Pi ?_
   refine AO9 ?_
   refine Ry ?_
   refine Ah Ag Ur (k := fun r8 hr8 => ?_)
   refine cY ?_
   refine Wz ?_
   refine Z71 ?_
   exact iM false 0 0 ([] : Ap) 0 0 ([]) none 0 ([]) none 0 0 ([]) r8 ⟨((Is.refl (Is.xr9 hF)).pos hq1), Je.nil, Je.nil, z48, z48⟩ se pj
  refine Rr ?_
  refine xD ?_
  refine Cg ?_
  refine Af (Cb (n := (Bj r).l.length) runUnderlying26 sizeOf52 ((Cw (Bj r) (s.take ((if 100 < ((s.length : Nat) : Int) then 100 else ((s.length : Nat) : Int)).toNat))).toNat) (Cx.j hs1_1.1 sh).sl (Cv hs1_1.1.1 z3) (Br hs1_1.1.1)) (k := ?_)
  refine Af (Cn isAgg52 sizeOf52 ((Cw (Bj r) (s.take ((if 100 < ((s.length : Nat) : Int) then 100 else ((s.length : Nat) : Int)).toNat))).toNat) (Cx.j hs1_1.1 sh).sl (Cv hs1_1.1.1 z3)) (k := ?_)
  refine cY ?_
  refine Z6 ?_
  refine AO9 ?_
  refine Ry ?_
  refine Ah Ag Ur (k := fun r9 hr9 => ?_)
  refine cY ?_
  refine Wz ?_
  refine Z71 ?_
  exact iM true ((((Bj r).l).getD ((Cw (Bj r) (s.take ((if 100 < ((s.length : Nat) : Int) then 100 else ((s.length : Nat) : Int)).toNat))).toNat) default).handle.slot) ((((Bj r).l).getD ((Cw (Bj r) (s.take ((if 100 < ((s.length : Nat) : Int) then 100 else ((s.length : Nat) : Int)).toNat))).toNat) default).handle.gen) ((((Bj r).l).getD ((Cw (Bj r) (s.take ((if 100 < ((s.length : Nat) : Int) then 100 else ((s.length : Nat) : Int)).toNat))).toNat) default).name) ((((Bj r).l).getD ((Cw (Bj r) (s.take ((if 100 < ((s.length : Nat) : Int) then 100 else ((s.length : Nat) : Int)).toNat))).toNat) default).state) ((((Bj r).l).getD ((Cw (Bj r) (s.take ((if 100 < ((s.length : Nat) : Int) then 100 else ((s.length : Nat) : Int)).toNat))).toNat) default).version) ((((Bj r).l).getD ((Cw (Bj r) (s.take ((if 100 < ((s.length : Nat) : Int) then 100 else ((s.length : Nat) : Int)).toNat))).toNat) default).rules) ((t1_1.getD ((Cw (Bj r) (s.take ((if 100 < ((s.length : Nat) : Int) then 100 else ((s.length : Nat) : Int)).toNat))).toNat) default).ra) ((t1_1.getD ((Cw (Bj r) (s.take ((if 100 < ((s.length : Nat) : Int) then 100 else ((s.length : Nat) : Int)).toNat))).toNat) default).rc) ((((Bj r).l).getD ((Cw (Bj r) (s.take ((if 100 < ((s.length : Nat) : Int) then 100 else ((s.length : Nat) : Int)).toNat))).toNat) default).creds) ((t1_1.getD ((Cw (Bj r) (s.take ((if 100 < ((s.length : Nat) : Int) then 100 else ((s.length : Nat) : Int)).toNat))).toNat) default).ca) ((t1_1.getD ((Cw (Bj r) (s.take ((if 100 < ((s.length : Nat) : Int) then 100 else ((s.length : Nat) : Int)).toNat))).toNat) default).cc) ((((Bj r).l).getD ((Cw (Bj r) (s.take ((if 100 < ((s.length : Nat) : Int) then 100 else ((s.length : Nat) : Int)).toNat))).toNat) default).deadline) ([]) r9 ⟨((Is.refl (Is.xr9 hF)).neg hq1), (fun w hw => ⟨(hs1_1.1.at (m := (Cw (Bj r) (s.take ((if 100 < ((s.length : Nat) : Int) then 100 else ((s.length : Nat) : Int)).toNat))).toNat) z3 w (Em hw)).1, (hs1_1.1.at (m := (Cw (Bj r) (s.take ((if 100 < ((s.length : Nat) : Int) then 100 else ((s.length : Nat) : Int)).toNat))).toNat) z3 w (Em hw)).2.2.1⟩), (fun w hw => ⟨(hs1_1.1.at (m := (Cw (Bj r) (s.take ((if 100 < ((s.length : Nat) : Int) then 100 else ((s.length : Nat) : Int)).toNat))).toNat) z3 w (Em hw)).2.1, (hs1_1.1.at (m := (Cw (Bj r) (s.take ((if 100 < ((s.length : Nat) : Int) then 100 else ((s.length : Nat) : Int)).toNat))).toNat) z3 w (Em hw)).2.2.2⟩), z48, z48⟩ se pj
 rintro is_1 x_2 x_3 x_4 x_5 x_6 x_7 x_7a x_7c x_8 x_8a x_8c x_9 x_7B r8 ⟨hJ10, hx_7, hx_8, hi11, hi12⟩
 refine cT ?_
 refine Fi Da 59 [(true, 0), (true, 1), (true, 2), (true, 3), (false, 4), (true, 5), (true, 6), (true, 7), (true, 8), (true, 9), (true, 10), (true, 11), (true, 12), (true, 14), (false, 13), (false, 15), (true, 16), (true, 17), (true, 18), (true, 19), (true, 20), (true, 22), (true, 23), (false, 21), (false, 24), (true, 25), (true, 26), (true, 27), (true, 28), (true, 29), (false, 30), (true, 31), (true, 32), (true, 33), (true, 34), (false, 35), (true, 36), (true, 37), (true, 38), (true, 39), (true, 40), (true, 41), (true, 42), (true, 43), (true, 45), (false, 44), (false, 46), (false, 47), (true, 48), (true, 49), (true, 50), (true, 51), (true, 53), (true, 54), (false, 52), (false, 55), (false, 56), (true, 57), (true, 58)] z4 ?_
 refine Xa ?_
 refine Jz 51 rfl (fun hq2 => ?_) (fun hq2 => ?_)
 rotate_left
 ·refine Bm 3 rfl ?_
  refine Rz ?_
  refine jQ ?_
  refine Rz ?_
  refine Rz ?_
  refine Rz ?_
  refine jQ ?_
  refine Xg ?_
  refine Ab results12 z1 (fun w1 hw1 => ?_)
  exact ⟨(rq ((hF.rn9 hJ10).f hq2)), hw1.ext_out⟩
 refine tJ ?_
 refine Nu (Ad call19) (fun w1 hw1 => Um w1 (a := ((Cu n_).1)) (b := ((Eu n_).1)) (h_a_Sg := (Dw.slj hs1_3) w1 hw1) (n_a_Sg := z0) (h_a_Su := (Dw.slj hs2_3) w1 hw1) (n_a_Su := z0) (h_a_Sf := (Dw.slj hs3_3) w1 hw1) (n_a_Sf := z0) (h_a_l := (Cx.j hs4_3.1 sh).2 w1 hw1) (n_a_l := z0) (k_a_l := hs4_3.2) (h_b_Sg := (Dw.slj hs1_4) w1 hw1) (n_b_Sg := z0) (h_b_Su := (Dw.slj hs2_4) w1 hw1) (n_b_Su := z0) (h_b_Sf := (Dw.slj hs3_4) w1 hw1) (n_b_Sf := z0) (h_b_l := (Cx.j hs4_4.1 sh).2 w1 hw1) (n_b_l := z0) (k_b_l := hs4_4.2) (hsm := fF) (hsm2 := fF)) (k := ?_)
 refine fH ?_
 refine Jz 56 rfl (fun hq3 => ?_) (fun hq3 => ?_)
 rotate_left
 ·refine Bm 3 rfl ?_
  refine jQ ?_
  refine Rz ?_
  refine Rz ?_
  refine Rz ?_
  refine jQ ?_
  refine Xg ?_
  refine Ab results12 z1 (fun w1 hw1 => ?_)
  exact ⟨(rq (((hF.rn9 hJ10).t hq2).f hq3)), hw1.ext_out⟩
 refine Mq ?_
 refine Mq ?_
 refine Bl Nv (k := ?_)
 refine fH ?_
 refine Fm 61 rfl (fun hq4 => ?_) (fun hq4 => ?_)
 rotate_left
 ·refine Bm 5 rfl ?_
  refine xV ?_
  refine Rz ?_
  refine Rz ?_
  refine Rz ?_
  refine jQ ?_
  refine Xg ?_
  refine Ab results12 z1 (fun w1 hw1 => ?_)
  exact ⟨(rq ((((hF.rn9 hJ10).t hq2).t hq3).neg hq4)), hw1.ext_out⟩
 refine tJ ?_
 refine Nu (Ad call23) (fun w1 hw1 => Ui w1 (r := (Bj r)) (h_r_Sg := (Bp.take rM _) w1 hw1) (n_r_Sg := z0) (h_r_Su := (Bp.take rN _) w1 hw1) (n_r_Su := z0) (h_r_Sf := (Bp.take rL _) w1 hw1) (n_r_Sf := z0) (h_r_l := (Cx.j hs1_1.1 sh).2 w1 hw1) (n_r_l := z0) (k_r_l := hs1_1.2) (hsm := fF)) (k := ?_)
 refine Nu (Ad call32) (fun w1 hw1 => eZ w1 (r := (Bj r)) (h_r_Sg := (Bp.take rM _) w1 hw1) (n_r_Sg := z0) (h_r_Su := (Bp.take rN _) w1 hw1) (n_r_Su := z0) (h_r_Sf := (Bp.take rL _) w1 hw1) (n_r_Sf := z0) (h_r_l := (Cx.j hs1_1.1 sh).2 w1 hw1) (n_r_l := z0) (k_r_l := hs1_1.2) (hsm := fF)) (k := ?_)
 refine Bl (pA runUnderlying4) (k := ?_)
 refine fH ?_
 refine Jz 68 rfl (fun hq5 => ?_) (fun hq5 => ?_)
 rotate_left
 ·refine Bm 7 rfl ?_
  refine Rz ?_
  refine Rz ?_
  refine Rz ?_
  refine jQ ?_
  refine Xg ?_
  refine Ab results12 z1 (fun w1 hw1 => ?_)
  exact ⟨(rq (((((hF.rn9 hJ10).t hq2).t hq3).pos hq4).f hq5)), hw1.ext_out⟩
 refine tJ ?_
 refine tJ ?_
 refine Nu (Ad call26) (fun w1 hw1 => nP w1 (a := (Bj r)) (b := (Bj q)) (h_a_Sg := (Bp.take rM _) w1 hw1) (n_a_Sg := z0) (h_a_Su := (Bp.take rN _) w1 hw1) (n_a_Su := z0) (h_a_Sf := (Bp.take rL _) w1 hw1) (n_a_Sf := z0) (h_a_l := (Cx.j hs1_1.1 sh).2 w1 hw1) (n_a_l := z0) (k_a_l := hs1_1.2) (h_b_Sg := (Bp.take (Bp.of_base h_q_Sg) _) w1 hw1) (n_b_Sg := z0) (h_b_Su := (Bp.take (Bp.of_base h_q_Su) _) w1 hw1) (n_b_Su := z0) (h_b_Sf := (Bp.take (Bp.of_base h_q_Sf) _) w1 hw1) (n_b_Sf := z0) (h_b_l := (Cx.j hs1_2.1 sh).2 w1 hw1) (n_b_l := z0) (k_b_l := hs1_2.2) (hsm := fF) (hsm2 := fF)) (k := ?_)
 refine Nu (Ad call19) (fun w1 hw1 => Um w1 (a := (Bj r)) (b := (Bj q)) (h_a_Sg := (Bp.take rM _) w1 hw1) (n_a_Sg := z0) (h_a_Su := (Bp.take rN _) w1 hw1) (n_a_Su := z0) (h_a_Sf := (Bp.take rL _) w1 hw1) (n_a_Sf := z0) (h_a_l := (Cx.j hs1_1.1 sh).2 w1 hw1) (n_a_l := z0) (k_a_l := hs1_1.2) (h_b_Sg := (Bp.take (Bp.of_base h_q_Sg) _) w1 hw1) (n_b_Sg := z0) (h_b_Su := (Bp.take (Bp.of_base h_q_Su) _) w1 hw1) (n_b_Su := z0) (h_b_Sf := (Bp.take (Bp.of_base h_q_Sf) _) w1 hw1) (n_b_Sf := z0) (h_b_l := (Cx.j hs1_2.1 sh).2 w1 hw1) (n_b_l := z0) (k_b_l := hs1_2.2) (hsm := fF) (hsm2 := fF)) (k := ?_)
 refine Bl (pA runUnderlying4) (k := ?_)
 refine fH ?_
 refine Jz 77 rfl (fun hq6 => ?_) (fun hq6 => ?_)
 rotate_left
 ·refine Bm 3 rfl ?_
  refine Rz ?_
  refine Rz ?_
  refine jQ ?_
  refine Xg ?_
  refine Ab results12 z1 (fun w1 hw1 => ?_)
  exact ⟨(rq ((((((hF.rn9 hJ10).t hq2).t hq3).pos hq4).t hq5).f hq6)), hw1.ext_out⟩
 refine tJ ?_
 refine Nu (Ad call26) (fun w1 hw1 => nP w1 (a := (Bj r)) (b := (Bj r)) (h_a_Sg := (Bp.take rM _) w1 hw1) (n_a_Sg := z0) (h_a_Su := (Bp.take rN _) w1 hw1) (n_a_Su := z0) (h_a_Sf := (Bp.take rL _) w1 hw1) (n_a_Sf := z0) (h_a_l := (Cx.j hs1_1.1 sh).2 w1 hw1) (n_a_l := z0) (k_a_l := hs1_1.2) (h_b_Sg := (Bp.take rM _) w1 hw1) (n_b_Sg := z0) (h_b_Su := (Bp.take rN _) w1 hw1) (n_b_Su := z0) (h_b_Sf := (Bp.take rL _) w1 hw1) (n_b_Sf := z0) (h_b_l := (Cx.j hs1_1.1 sh).2 w1 hw1) (n_b_l := z0) (k_b_l := hs1_1.2) (hsm := fF) (hsm2 := fF)) (k := ?_)
 refine fH ?_
 refine Jz 82 rfl (fun hq7 => ?_) (fun hq7 => ?_)
 rotate_left
 ·refine Bm 3 rfl ?_
  refine Rz ?_
  refine jQ ?_
  refine Xg ?_
  refine Ab results12 z1 (fun w1 hw1 => ?_)
  exact ⟨(rq (((((((hF.rn9 hJ10).t hq2).t hq3).pos hq4).t hq5).t hq6).f hq7)), hw1.ext_out⟩
 refine Bl Y0 (k := ?_)
 refine Bl Y0 (k := ?_)
 refine Nu (Ad call27) (fun w1 hw1 => fA w1 (a := ((Ee (Bj r) (s.take ((if 100 < ((s.length : Nat) : Int) then 100 else ((s.length : Nat) : Int)).toNat))).1)) (b := (Aa.mk (Ar.mk x_2 x_3) x_4 x_5 x_6 x_7 x_8 x_9)) (h_a_rules := (ho1_5.slj Ck) w1 hw1) (n_a_rules := z0) (h_a_creds := (ho2_5.slj Ed) w1 hw1) (n_a_creds := z0) (h_b_rules := (Dw.slj (Je.slb hx_7) sh) w1 hw1) (n_b_rules := z0) (h_b_creds := (Dw.slj (Je.slb hx_8) sh) w1 hw1) (n_b_creds := z0)) (k := ?_)
 refine fH ?_
 refine Jz 87 rfl (fun hq8 => ?_) (fun hq8 => ?_)
 rotate_left
 ·refine Bm 3 rfl ?_
  refine jQ ?_
  refine Xg ?_
  refine Ab results12 z1 (fun w1 hw1 => ?_)
  exact ⟨(rq ((((((((hF.rn9 hJ10).t hq2).t hq3).pos hq4).t hq5).t hq6).t hq7).f hq8)), hw1.ext_out⟩
 refine Mq ?_
 refine Mq ?_
 refine Bl (pA runUnderlying4) (k := ?_)
 refine fH ?_
 refine Jz 92 rfl (fun hq9 => ?_) (fun hq9 => ?_)
 rotate_left
 ·refine Bm 5 rfl ?_
  refine xV ?_
  refine Xg ?_
  refine Ab results12 z1 (fun w1 hw1 => ?_)
  exact ⟨(rq (((((((((hF.rn9 hJ10).t hq2).t hq3).pos hq4).t hq5).t hq6).t hq7).t hq8).f hq9)), hw1.ext_out⟩
 refine tJ ?_
 refine zG (Ad call28) (fun w1 hw1 => vP w1 (r := (Bj r)) (h_r_Sg := (Bp.take rM _) w1 hw1) (n_r_Sg := z0) (h_r_Su := (Bp.take rN _) w1 hw1) (n_r_Su := z0) (h_r_Sf := (Bp.take rL _) w1 hw1) (n_r_Sf := z0) (h_r_l := (Cx.j hs1_1.1 sh).2 w1 hw1) (n_r_l := z0) (k_r_l := hs1_1.2)) (k := ?_)
 rintro w1_10 e1_10 w2_10 hw1_10 ⟨a1_10, c1_10, B1_10, he_10, hf_10, ho1_10, hl1_10⟩
 refine ⟨_, _, _, he_10, hf_10, rfl, ?_⟩
 refine zG (Ad call34) (fun w1 hw1 => qS w1 (r := (Bj r)) (h_r_Sg := (Bp.take rM _) w1 hw1) (n_r_Sg := z0) (h_r_Su := (Bp.take rN _) w1 hw1) (n_r_Su := z0) (h_r_Sf := (Bp.take rL _) w1 hw1) (n_r_Sf := z0) (h_r_l := (Cx.j hs1_1.1 sh).2 w1 hw1) (n_r_l := z0) (k_r_l := hs1_1.2)) (k := ?_)
 rintro w1_11 e1_11 w2_11 hw1_11 ⟨a1_11, c1_11, B1_11, he_11, hf_11, ho1_11, hl1_11⟩
 refine ⟨_, _, _, he_11, hf_11, rfl, ?_⟩
 refine Nu (Ad call33) (fun w1 hw1 => vN w1 (a := (Qy (Bj r))) (b := (Mc (Bj r))) (h_a := (ho1_10.slj hQ) w1 hw1) (n_a := z0) (h_b := (ho1_11.slj hQ) w1 hw1) (n_b := z0)) (k := ?_)
 refine fH ?_
 refine Jz 99 rfl (fun hq10 => ?_) (fun hq10 => ?_)
 rotate_left
 ·refine Bm 7 rfl ?_
  refine Xg ?_
  refine Ab results12 z1 (fun w1 hw1 => ?_)
  exact ⟨(rq ((((((((((hF.rn9 hJ10).t hq2).t hq3).pos hq4).t hq5).t hq6).t hq7).t hq8).t hq9).f hq10)), hw1.ext_out⟩
 refine Bl K7 (k := ?_)
 refine Mq ?_
 refine Bl K7 (k := ?_)
 refine Mq ?_
 refine zG (Ad call22) (fun w1 hw1 => I9 w1 (r := (Bj r)) (now := n_) (h_r_Sg := (Bp.take rM _) w1 hw1) (n_r_Sg := z0) (h_r_Su := (Bp.take rN _) w1 hw1) (n_r_Su := z0) (h_r_Sf := (Bp.take rL _) w1 hw1) (n_r_Sf := z0) (h_r_l := (Cx.j hs1_1.1 sh).2 w1 hw1) (n_r_l := z0) (k_r_l := hs1_1.2) (hsm := fF)) (k := ?_)
 rintro w1_12 e1_12 w2_12 hw1_12 ⟨a1_12, c1_12, a2_12, c2_12, a3_12, c3_12, a4_12, c4_12, t4_12, B_12, he_12, hf_12, hs1_12, hs2_12, hs3_12, hs4_12, hl1_12, hl2_12, hl3_12, hl4_12⟩
 refine ⟨_, _, _, he_12, hf_12, rfl, ?_⟩
 have htk_95888 := nX n_ (by first | assumption | exact Bk.nil : Bk ((Bj r).l))
 refine rT (args := [_, _]) (Ad call35) func35 ntmps35 ?_
 refine Q9 _ (eqp nE) ?_
 refine Z2 ?_
 refine Ah Ag Vf (k := fun r10 hr10 => ?_)
 refine Ah Ag Wy (k := fun r11 hr11 => ?_)
 refine Me ?_
 refine lA ?_
 refine Fu (Ad call32) (fun w1 hw1 => eZ w1 (r := (Bj r)) (h_r_Sg := (Bp.take rM _) w1 hw1) (n_r_Sg := z6) (h_r_Su := (Bp.take rN _) w1 hw1) (n_r_Su := z6) (h_r_Sf := (Bp.take rL _) w1 hw1) (n_r_Sf := z6) (h_r_l := (Cx.j hs1_1.1 sh).2 w1 hw1) (n_r_l := z6) (k_r_l := hs1_1.2) (hsm := z6)) (k := ?_)
 refine Rj ?_
 refine Ct rfl (fun hq11 => ?_) (fun hq11 => ?_)
 ·refine Bg ?_
  refine lC ?_
  refine Z88 ?_
  refine Fl ?_
  refine Cj _ (sk (sd (sa (sa (sa (sa (sk (sk (sa (sa (sk (sa (sk (sa (sa (sa (sk (sk sz)))))))))))))))))) ?_
  refine Gg _ _ results35 rK (vp (List.Perm.refl _) nE) (List.Sublist.cons _ Ou) ?_
  refine Nu (Ad call19) (fun w1 hw1 => Um w1 (a := (Gp (Bj r) n_)) (b := (Bj r)) (h_a_Sg := (Dw.slj hs1_12) w1 hw1) (n_a_Sg := z0) (h_a_Su := (Dw.slj hs2_12) w1 hw1) (n_a_Su := z0) (h_a_Sf := (Dw.slj hs3_12) w1 hw1) (n_a_Sf := z0) (h_a_l := (Cx.j hs4_12.1 sh).2 w1 hw1) (n_a_l := z0) (k_a_l := hs4_12.2) (h_b_Sg := (Bp.take rM _) w1 hw1) (n_b_Sg := z0) (h_b_Su := (Bp.take rN _) w1 hw1) (n_b_Su := z0) (h_b_Sf := (Bp.take rL _) w1 hw1) (n_b_Sf := z0) (h_b_l := (Cx.j hs1_1.1 sh).2 w1 hw1) (n_b_l := z0) (k_b_l := hs1_1.2) (hsm := fF) (hsm2 := fF)) (k := ?_)
  refine Aw Hh (k := ?_)
  refine Y3 ?_
  refine Ab results12 z1 (fun w1 hw1 => ?_)
  exact ⟨(rq (((((((((((hF.rn9 hJ10).t hq2).t hq3).pos hq4).t hq5).t hq6).t hq7).t hq8).t hq9).t hq10).t hq11)), hw1.ext_out⟩
 have hfhq11 := wU (by simpa using hq11)
 obtain ⟨hsq, hvb⟩ := hfhq11
 refine Js ?_
 refine Pn ?_
 refine bV (σ1 := Nat) (σ2 := Nat) (σ3 := List Aa) (σ4 := List TA) (σ5 := Option Addr) (σ6 := Nat) (σ7 := Int) (σ8 := Aj) (fun n_16 i_13 x_14 x_14t x_14a x_14c x_15 x_14B => (x_14B ++ ((r11, oc [(vs none 0 0), (vs none 0 0), (vs none 0 0), (vs none 0 0), (vi 0)] 28) :: ((r10, oc [(vs r_Sg_a ((Bj r).slots.gens.length) r_Sg_c), (vs r_Su_a ((Bj r).slots.used.length) r_Su_c), (vs r_Sf_a ((Bj r).slots.free.length) r_Sf_c), (vs x_14a x_14.length x_14c), (vi x_15)] 28) :: (B_12 ++ (B1_11 ++ (B1_10 ++ (x_7B ++ ((r8, oc [(vi x_2), (vi x_3), (vt x_4), (vi x_5), (vi x_6), (vs x_7a x_7.length x_7c), (vs x_8a x_8.length x_8c), (vi x_9)] 52) :: ((r5, oc [(vi ((Ee (Bj r) (s.take ((if 100 < ((s.length : Nat) : Int) then 100 else ((s.length : Nat) : Int)).toNat))).1.handle.slot)), (vi ((Ee (Bj r) (s.take ((if 100 < ((s.length : Nat) : Int) then 100 else ((s.length : Nat) : Int)).toNat))).1.handle.gen)), (Value.string (bs ((Ee (Bj r) (s.take ((if 100 < ((s.length : Nat) : Int) then 100 else ((s.length : Nat) : Int)).toNat))).1.name))), (vi ((Ee (Bj r) (s.take ((if 100 < ((s.length : Nat) : Int) then 100 else ((s.length : Nat) : Int)).toNat))).1.state)), (vi ((Ee (Bj r) (s.take ((if 100 < ((s.length : Nat) : Int) then 100 else ((s.length : Nat) : Int)).toNat))).1.version)), (vs a1_5 ((Ee (Bj r) (s.take ((if 100 < ((s.length : Nat) : Int) then 100 else ((s.length : Nat) : Int)).toNat))).1.rules.length) c1_5), (vs a2_5 ((Ee (Bj r) (s.take ((if 100 < ((s.length : Nat) : Int) then 100 else ((s.length : Nat) : Int)).toNat))).1.creds.length) c2_5), (vi ((Ee (Bj r) (s.take ((if 100 < ((s.length : Nat) : Int) then 100 else ((s.length : Nat) : Int)).toNat))).1.deadline))] 52) :: (B1_5 ++ (B2_5 ++ ((r4, oc [(vs a1_4 ((Eu n_).1.slots.gens.length) c1_4), (vs a2_4 ((Eu n_).1.slots.used.length) c2_4), (vs a3_4 ((Eu n_).1.slots.free.length) c3_4), (vs a4_4 ((Eu n_).1.l.length) c4_4), (vi ((Eu n_).1.seq))] 28) :: (B_4 ++ ((r3, oc [(vs a1_3 ((Cu n_).1.slots.gens.length) c1_3), (vs a2_3 ((Cu n_).1.slots.used.length) c2_3), (vs a3_3 ((Cu n_).1.slots.free.length) c3_3), (vs a4_3 ((Cu n_).1.l.length) c4_3), (vi ((Cu n_).1.seq))] 28) :: (B_3 ++ (B_2 ++ (B_1 ++ ((r2, oc [(vs q_Sg_a ((Bj q).slots.gens.length) q_Sg_c), (vs q_Su_a ((Bj q).slots.used.length) q_Su_c), (vs q_Sf_a ((Bj q).slots.free.length) q_Sf_c), (vs a1_2 ((Bj q).l.length) c1_2), (vi ((Bj q).seq))] 28) :: ((r1, oc [(vs r_Sg_a ((Bj r).slots.gens.length) r_Sg_c), (vs r_Su_a ((Bj r).slots.used.length) r_Su_c), (vs r_Sf_a ((Bj r).slots.free.length) r_Sf_c), (vs a1_1 ((Bj r).l.length) c1_1), (vi ((Bj r).seq))] 28) :: [])))))))))))))))))))) (fun n_16 i_13 x_14 x_14t x_14a x_14c x_15 x_14B => [(1, (vi n_)), (2, (Value.pointer (some ⟨r10, 0, none⟩))), (4, (Value.pointer (some ⟨r11, 0, none⟩))), (5, (vi ((i_13 : Nat) : Int)))]) (fun n_16 i_13 x_14 x_14t x_14a x_14c x_15 x_14B => x_14.length - i_13 < n_16 ∧ Is (Co r q n_ s is_1 x_2 x_3 x_4 x_5 x_6 x_7 x_8 x_9 (((Bj r).l).length + 1) 0 ((Bj r).l) ((Bj r).seq)) (Co r q n_ s is_1 x_2 x_3 x_4 x_5 x_6 x_7 x_8 x_9 n_16 i_13 x_14 x_15) ∧ (Cx (B_1 ++ x_14B) Bu 8 DT x_14a x_14 x_14t ∧ x_14.length ≤ x_14c) ∧ i_13 ≤ x_14.length ∧ i_13 ≤ (Bj r).l.length ∧ x_14.length = (Bj r).l.length ∧ ((Bj r).seq ≤ x_15 ∧ 0 ≤ x_15 ∧ x_15 ≤ 1000000000000) ∧ Bk x_14 ∧ Dm x_14 (1000000000000 + (i_13 : Int))) (fun n_16 i_13 x_14 x_14t x_14a x_14c x_15 x_14B => n_16) (((Bj r).l).length + 1) 0 ((Bj r).l) t1_1 a1_1 c1_1 ((Bj r).seq) ([]) ?_ se oH ?_
 ·exact ⟨Nat.lt_succ_self _, Is.refl _, ⟨(hs1_1.1.mono sh), hs1_1.2⟩, (by first | omega | rfl | assumption | exact hvb.mono z2), (by first | omega | rfl | assumption | exact hvb.mono z2), (by first | omega | rfl | assumption | exact hvb.mono z2), (by first | omega | rfl | assumption | exact hvb.mono z2), (by first | omega | rfl | assumption | exact hvb.mono z2), (by first | omega | rfl | assumption | exact hvb.mono z2)⟩
 ·rintro (_ | n_16) i_13 x_14 x_14t x_14a x_14c x_15 x_14B ⟨hm18, hF17, ⟨hx_14, hkx_14⟩, hi19, hi20, hi21, hi22, hi23, hi24⟩
  ·omega
  refine fT ?_
  refine cO ?_
  refine Z9 ?_
  refine Au rfl (fun hq12 => ?_) (fun hq12 => ?_)
  rotate_left
  ·refine Ca ?_
   refine oM ?_
   refine bG ?_
   refine Gg _ _ results35 rK (vp (List.Perm.refl _) nE) (List.Sublist.trans (List.Sublist.cons _ (List.Sublist.cons _ Ou)) (List.sublist_append_right _ _)) ?_
   refine Nu (Ad call19) (fun w1 hw1 => Um w1 (a := (Gp (Bj r) n_)) (b := (Ac.mk ((Bj r).slots) x_14 x_15)) (h_a_Sg := (Dw.slj hs1_12) w1 hw1) (n_a_Sg := z0) (h_a_Su := (Dw.slj hs2_12) w1 hw1) (n_a_Su := z0) (h_a_Sf := (Dw.slj hs3_12) w1 hw1) (n_a_Sf := z0) (h_a_l := (Cx.j hs4_12.1 sh).2 w1 hw1) (n_a_l := z0) (k_a_l := hs4_12.2) (h_b_Sg := (Bp.take rM _) w1 hw1) (n_b_Sg := z0) (h_b_Su := (Bp.take rN _) w1 hw1) (n_b_Su := z0) (h_b_Sf := (Bp.take rL _) w1 hw1) (n_b_Sf := z0) (h_b_l := (Cx.j hx_14 sh).2 w1 hw1) (n_b_l := z0) (k_b_l := hkx_14) (hsm := fF) (hsm2 := fF)) (k := ?_)
   refine Aw Hh (k := ?_)
   refine Y3 ?_
   refine Ab results12 z1 (fun w1 hw1 => ?_)
   exact ⟨(rq ((((((((((((hF.rn9 hJ10).t hq2).t hq3).pos hq4).t hq5).t hq6).t hq7).t hq8).t hq9).t hq10).f hq11).rn3 (hF17.neg hq12))), hw1.ext_out⟩
  refine xC ?_
  refine xD ?_
  refine Cg ?_
  refine Af (Cb (n := x_14.length) runUnderlying26 sizeOf52 i_13 (Cx.j hx_14 sh).sl (Cv hx_14.1 z3) (Br hx_14.1)) (k := ?_)
  refine Af (Cn isAgg52 sizeOf52 i_13 (Cx.j hx_14 sh).sl (Cv hx_14.1 z3)) (k := ?_)
  refine Ah Ag Ur (k := fun r12 hr12 => ?_)
  refine L4 ?_
  refine Z2 ?_
  refine oR ?_
  refine Zg ?_
  refine Cg ?_
  refine Ao 26 rfl (fun hq13 => ?_) (fun hq13 => ?_)
  rotate_left
  ·refine Ae 4 rfl ?_
   refine jH ?_
   refine Qh ?_
   refine bQ ?_
   refine Xb ?_
   refine AD9 ?_
   refine fP ?_
   exact Ip n_16 (i_13 + 1) x_14 x_14t x_14a x_14c x_15 x_14B ⟨by omega, ((hF17.pos hq12).neg hq13), ⟨(hx_14.mono sh), hkx_14⟩, (by first | omega | assumption | exact Dm.mono Ey z2 | (refine Bk.put2 ?_ _ _ ⟨rfl, rfl⟩; assumption) | exact (Dd z2 _ z2).trans Ey | (refine (Dm.put Ey _ _ z2 rfl _ z2).mono ?_; omega)), (by first | omega | assumption | exact Dm.mono Ey z2 | (refine Bk.put2 ?_ _ _ ⟨rfl, rfl⟩; assumption) | exact (Dd z2 _ z2).trans Ey | (refine (Dm.put Ey _ _ z2 rfl _ z2).mono ?_; omega)), (by first | omega | assumption | exact Dm.mono Ey z2 | (refine Bk.put2 ?_ _ _ ⟨rfl, rfl⟩; assumption) | exact (Dd z2 _ z2).trans Ey | (refine (Dm.put Ey _ _ z2 rfl _ z2).mono ?_; omega)), (by first | omega | assumption | exact Dm.mono Ey z2 | (refine Bk.put2 ?_ _ _ ⟨rfl, rfl⟩; assumption) | exact (Dd z2 _ z2).trans Ey | (refine (Dm.put Ey _ _ z2 rfl _ z2).mono ?_; omega)), (by first | omega | assumption | exact Dm.mono Ey z2 | (refine Bk.put2 ?_ _ _ ⟨rfl, rfl⟩; assumption) | exact (Dd z2 _ z2).trans Ey | (refine (Dm.put Ey _ _ z2 rfl _ z2).mono ?_; omega)), (by first | omega | assumption | exact Dm.mono Ey z2 | (refine Bk.put2 ?_ _ _ ⟨rfl, rfl⟩; assumption) | exact (Dd z2 _ z2).trans Ey | (refine (Dm.put Ey _ _ z2 rfl _ z2).mono ?_; omega))⟩ (Nat.lt_succ_self _) se oH
  refine cL ?_
  refine Hf ?_
  refine cW ?_
  refine Pj ?_
  refine Ao 32 rfl (fun hq14 => ?_) (fun hq14 => ?_)
  rotate_left
  ·refine Ae 3 rfl ?_
   refine Qh ?_
   refine bQ ?_
   refine Xb ?_
   refine AD9 ?_
   refine fP ?_
   exact Ip n_16 (i_13 + 1) x_14 x_14t x_14a x_14c x_15 x_14B ⟨by omega, (((hF17.pos hq12).pos hq13).neg hq14), ⟨(hx_14.mono sh), hkx_14⟩, (by first | omega | assumption | exact Dm.mono Ey z2 | (refine Bk.put2 ?_ _ _ ⟨rfl, rfl⟩; assumption) | exact (Dd z2 _ z2).trans Ey | (refine (Dm.put Ey _ _ z2 rfl _ z2).mono ?_; omega)), (by first | omega | assumption | exact Dm.mono Ey z2 | (refine Bk.put2 ?_ _ _ ⟨rfl, rfl⟩; assumption) | exact (Dd z2 _ z2).trans Ey | (refine (Dm.put Ey _ _ z2 rfl _ z2).mono ?_; omega)), (by first | omega | assumption | exact Dm.mono Ey z2 | (refine Bk.put2 ?_ _ _ ⟨rfl, rfl⟩; assumption) | exact (Dd z2 _ z2).trans Ey | (refine (Dm.put Ey _ _ z2 rfl _ z2).mono ?_; omega)), (by first | omega | assumption | exact Dm.mono Ey z2 | (refine Bk.put2 ?_ _ _ ⟨rfl, rfl⟩; assumption) | exact (Dd z2 _ z2).trans Ey | (refine (Dm.put Ey _ _ z2 rfl _ z2).mono ?_; omega)), (by first | omega | assumption | exact Dm.mono Ey z2 | (refine Bk.put2 ?_ _ _ ⟨rfl, rfl⟩; assumption) | exact (Dd z2 _ z2).trans Ey | (refine (Dm.put Ey _ _ z2 rfl _ z2).mono ?_; omega)), (by first | omega | assumption | exact Dm.mono Ey z2 | (refine Bk.put2 ?_ _ _ ⟨rfl, rfl⟩; assumption) | exact (Dd z2 _ z2).trans Ey | (refine (Dm.put Ey _ _ z2 rfl _ z2).mono ?_; omega))⟩ (Nat.lt_succ_self _) se oH
  refine cM ?_
  refine Bb Ps (k := ?_)
  refine xB ?_
  refine Au rfl (fun hq15 => ?_) (fun hq15 => ?_)
  rotate_left
  ·refine Bq ?_
   refine Xb ?_
   refine AD9 ?_
   refine fP ?_
   exact Ip n_16 (i_13 + 1) x_14 x_14t x_14a x_14c x_15 x_14B ⟨by omega, ((((hF17.pos hq12).pos hq13).pos hq14).neg hq15), ⟨(hx_14.mono sh), hkx_14⟩, (by first | omega | assumption | exact Dm.mono Ey z2 | (refine Bk.put2 ?_ _ _ ⟨rfl, rfl⟩; assumption) | exact (Dd z2 _ z2).trans Ey | (refine (Dm.put Ey _ _ z2 rfl _ z2).mono ?_; omega)), (by first | omega | assumption | exact Dm.mono Ey z2 | (refine Bk.put2 ?_ _ _ ⟨rfl, rfl⟩; assumption) | exact (Dd z2 _ z2).trans Ey | (refine (Dm.put Ey _ _ z2 rfl _ z2).mono ?_; omega)), (by first | omega | assumption | exact Dm.mono Ey z2 | (refine Bk.put2 ?_ _ _ ⟨rfl, rfl⟩; assumption) | exact (Dd z2 _ z2).trans Ey | (refine (Dm.put Ey _ _ z2 rfl _ z2).mono ?_; omega)), (by first | omega | assumption | exact Dm.mono Ey z2 | (refine Bk.put2 ?_ _ _ ⟨rfl, rfl⟩; assumption) | exact (Dd z2 _ z2).trans Ey | (refine (Dm.put Ey _ _ z2 rfl _ z2).mono ?_; omega)), (by first | omega | assumption | exact Dm.mono Ey z2 | (refine Bk.put2 ?_ _ _ ⟨rfl, rfl⟩; assumption) | exact (Dd z2 _ z2).trans Ey | (refine (Dm.put Ey _ _ z2 rfl _ z2).mono ?_; omega)), (by first | omega | assumption | exact Dm.mono Ey z2 | (refine Bk.put2 ?_ _ _ ⟨rfl, rfl⟩; assumption) | exact (Dd z2 _ z2).trans Ey | (refine (Dm.put Ey _ _ z2 rfl _ z2).mono ?_; omega))⟩ (Nat.lt_succ_self _) se oH
  refine Z2 ?_
  refine Af (Ai Uh) (k := ?_)
  refine Gw (Bt (l' := [_, _, _, _, _, _, _, _]) sizeOf3) (k := ?_)
  refine Uw ?_
  refine Af (Ai cE) (k := ?_)
  refine Gw (Bt (l' := [_, _, _, _, _, _, _, _]) sizeOf3) (k := ?_)
  refine Uw ?_
  refine yA ?_
  have hver : (x_14.getD i_13 default).version ≤ 1000000000000 + (i_13 : Int) ∧ 0 ≤ (x_14.getD i_13 default).version := (by assumption : Dm x_14 (1000000000000 + (i_13 : Int))) i_13
  refine Af (gV (h := by (dsimp only; omega))) (k := ?_)
  refine Af (Ai Qv) (k := ?_)
  refine Gw (Bt (l' := [_, _, _, _, _, _, _, _]) sizeOf3) (k := ?_)
  refine Z0 ?_
  refine lA ?_
  refine Cg ?_
  refine uD ?_
  refine Fa (args := [_, _, _]) (Ad call70) func70 ntmps70 ?_
  refine Z2 ?_
  refine Ah Ag Vf (k := fun r13 hr13 => ?_)
  refine Ah Ag z61 (k := fun r14 hr14 => ?_)
  refine Ah Ag Wy (k := fun r15 hr15 => ?_)
  refine Uw ?_
  refine Rw ?_
  refine Xo (V := []) Da 10 z4 ?_
  refine Ez 0 rfl z4 Ho (k := ?_)
  refine Ez 1 rfl z4 (Ai Kf) (k := ?_)
  refine Ez 2 rfl z4 (Bv isAgg26) (k := ?_)
  refine Ez 3 rfl z4 Ho (k := ?_)
  have hl16 : (x_14.take i_13).length = i_13 := by rw [List.length_take]; omega
  refine Ez 4 rfl z4 (Fz (x_14.take i_13).length runUnderlying26 (fun w => ⟨_, sizeOf52 w⟩) (hm := z2) (hi := z2)) (k := ?_)
  refine Ez 6 rfl z4 Y0 (k := ?_)
  refine Cr [5, 7] z4 rfl (List.forall_mem_cons.2 ⟨?_, (List.forall_mem_cons.2 ⟨?_, nofun⟩)⟩)
  ·skip
   refine Qj rfl (List.zip (x_14.take i_13) (x_14t.take i_13)) (List.nil_append _) Gd underlying26 Av Bi.nil (List.Perm.refl _) ((Cx.j hx_14 sh).take i_13).sl ⟨by first | exact lb, by first | exact lb⟩ (n := 0) (m := (x_14.take i_13).length) (hn := rfl) (hm := (Br (hx_14.take i_13).1)) (hzl := by rw [Br (hx_14.take i_13).1]; first | rfl | simp) (k := fun ax121 cx121 Bx121 hox121 => ?_)
   have hzl121 : (List.zip (x_14.take i_13) (x_14t.take i_13)).length = (x_14.take i_13).length := Br (hx_14.take i_13).1
   rw [hzl121]
   have hdp17 : Bs (B_1 ++ (x_14B ++ [])) DT (x_14.take i_13) (x_14t.take i_13) := (Bs.of (hx_14.take i_13)).mono sh
   refine Cr [7] z4 rfl (List.forall_mem_cons.2 ⟨?_, nofun⟩)
   ·skip
    refine Lf rfl Ag J5 (k := fun r176 hr176 => ?_)
    have hdl18 := (Bs.one (B := (B_1 ++ (x_14B ++ []))) (D := DT) (x := (Aa.mk ((x_14.getD i_13 default).handle) ((x_14.getD i_13 default).name) 2 (((x_14.getD i_13 default).version) + 1) ((x_14.getD i_13 default).rules) ((x_14.getD i_13 default).creds) 0)) (t := (⟨(x_14t.getD i_13 default).ra, (x_14t.getD i_13 default).rc, (x_14t.getD i_13 default).ca, (x_14t.getD i_13 default).cc⟩ : TA)) (fun w hw => ⟨(hx_14.at (m := i_13) z3 w (Em hw)).1, (hx_14.at (m := i_13) z3 w (Em hw)).2.1, (hx_14.at (m := i_13) z3 w (Em hw)).2.2.1, (hx_14.at (m := i_13) z3 w (Em hw)).2.2.2⟩))
    refine Cr [8] z4 rfl (List.forall_mem_cons.2 ⟨?_, nofun⟩)
    ·skip
     refine Qj rfl (List.zip ((x_14.take i_13) ++ ([(Aa.mk ((x_14.getD i_13 default).handle) ((x_14.getD i_13 default).name) 2 (((x_14.getD i_13 default).version) + 1) ((x_14.getD i_13 default).rules) ((x_14.getD i_13 default).creds) 0)] : List Aa)) ((x_14t.take i_13) ++ ([⟨(x_14t.getD i_13 default).ra, (x_14t.getD i_13 default).rc, (x_14t.getD i_13 default).ca, (x_14t.getD i_13 default).cc⟩] : List TA))) (List.zip_append hdp17.1.symm).symm Gd underlying26 Av hox121 (List.Perm.refl _) (Bi.nj Av (Bi.mk (xs := List.zip ([(Aa.mk ((x_14.getD i_13 default).handle) ((x_14.getD i_13 default).name) 2 (((x_14.getD i_13 default).version) + 1) ((x_14.getD i_13 default).rules) ((x_14.getD i_13 default).creds) 0)] : List Aa) ([⟨(x_14t.getD i_13 default).ra, (x_14t.getD i_13 default).rc, (x_14t.getD i_13 default).ca, (x_14t.getD i_13 default).cc⟩] : List TA)) rfl rfl Av) hdl18 (hB := sh) (hR := sh)).sl ⟨by first | exact lb, by first | exact lb⟩ (n := (x_14.take i_13).length) (m := 1) (hn := (Br hdp17.1)) (hm := (Br hdl18.1)) (hzl := by rw [Br (by rw [List.length_append, List.length_append, hdp17.1, hdl18.1])]; first | rfl | simp) (k := fun ax181 cx181 Bx181 hox181 => ?_)
     have hzl181 : (List.zip ((x_14.take i_13) ++ ([(Aa.mk ((x_14.getD i_13 default).handle) ((x_14.getD i_13 default).name) 2 (((x_14.getD i_13 default).version) + 1) ((x_14.getD i_13 default).rules) ((x_14.getD i_13 default).creds) 0)] : List Aa)) ((x_14t.take i_13) ++ ([⟨(x_14t.getD i_13 default).ra, (x_14t.getD i_13 default).rc, (x_14t.getD i_13 default).ca, (x_14t.getD i_13 default).cc⟩] : List TA))).length = ((x_14.take i_13) ++ ([(Aa.mk ((x_14.getD i_13 default).handle) ((x_14.getD i_13 default).name) 2 (((x_14.getD i_13 default).version) + 1) ((x_14.getD i_13 default).rules) ((x_14.getD i_13 default).creds) 0)] : List Aa)).length := Br (by rw [List.length_append, List.length_append, hdp17.1, hdl18.1])
     rw [hzl181]
     have hal181 : ((x_14.take i_13) ++ ([(Aa.mk ((x_14.getD i_13 default).handle) ((x_14.getD i_13 default).name) 2 (((x_14.getD i_13 default).version) + 1) ((x_14.getD i_13 default).rules) ((x_14.getD i_13 default).creds) 0)] : List Aa)).length = (x_14.take i_13).length + 1 := List.length_append
     have hdp19 : Bs (B_1 ++ (x_14B ++ [])) DT ((x_14.take i_13) ++ ([(Aa.mk ((x_14.getD i_13 default).handle) ((x_14.getD i_13 default).name) 2 (((x_14.getD i_13 default).version) + 1) ((x_14.getD i_13 default).rules) ((x_14.getD i_13 default).creds) 0)] : List Aa)) ((x_14t.take i_13) ++ ([⟨(x_14t.getD i_13 default).ra, (x_14t.getD i_13 default).rc, (x_14t.getD i_13 default).ca, (x_14t.getD i_13 default).cc⟩] : List TA)) := Bs.append (hdp17.mono sh) (hdl18.mono sh)
     refine Ez 9 rfl z4 Fj (k := ?_)
     refine P9 ?_
     refine Me ?_
     refine AP8 ?_
     refine xD ?_
     refine J8 ?_
     have hld20 : (x_14.drop (i_13 + 1)).length = x_14.length - (i_13 + 1) := List.length_drop
     refine AQ6 ?_
     refine Az _ (List.zip_append hdp19.1.symm).symm Gd underlying26 Av hox181 q0 ((Cx.j hx_14 sh).off (i_13 + 1) x_14c Ru).sl ⟨by first | exact lb, by first | exact lb⟩ (n := ((x_14.take i_13) ++ ([(Aa.mk ((x_14.getD i_13 default).handle) ((x_14.getD i_13 default).name) 2 (((x_14.getD i_13 default).version) + 1) ((x_14.getD i_13 default).rules) ((x_14.getD i_13 default).creds) 0)] : List Aa)).length) (m := (x_14.drop (i_13 + 1)).length) (hn := (Br hdp19.1)) (hm := (Br (hx_14.off (i_13 + 1) x_14c Ru).1)) (k := fun ax221 cx221 Bx221 hox221 => ?_)
     rw [Br (AT0 hdp19.1 (hx_14.off (i_13 + 1) x_14c Ru).1)]
     have hal221 : (((x_14.take i_13) ++ ([(Aa.mk ((x_14.getD i_13 default).handle) ((x_14.getD i_13 default).name) 2 (((x_14.getD i_13 default).version) + 1) ((x_14.getD i_13 default).rules) ((x_14.getD i_13 default).creds) 0)] : List Aa)) ++ (x_14.drop (i_13 + 1))).length = ((x_14.take i_13) ++ ([(Aa.mk ((x_14.getD i_13 default).handle) ((x_14.getD i_13 default).name) 2 (((x_14.getD i_13 default).version) + 1) ((x_14.getD i_13 default).rules) ((x_14.getD i_13 default).creds) 0)] : List Aa)).length + (x_14.drop (i_13 + 1)).length := List.length_append
     have hdp21 : Bs (B_1 ++ (x_14B ++ [])) DT (((x_14.take i_13) ++ ([(Aa.mk ((x_14.getD i_13 default).handle) ((x_14.getD i_13 default).name) 2 (((x_14.getD i_13 default).version) + 1) ((x_14.getD i_13 default).rules) ((x_14.getD i_13 default).creds) 0)] : List Aa)) ++ (x_14.drop (i_13 + 1))) (((x_14t.take i_13) ++ ([⟨(x_14t.getD i_13 default).ra, (x_14t.getD i_13 default).rc, (x_14t.getD i_13 default).ca, (x_14t.getD i_13 default).cc⟩] : List TA)) ++ (x_14t.drop (i_13 + 1))) := Bs.append (hdp19.mono sh) ((Bs.of (hx_14.off (i_13 + 1) x_14c Ru)).mono sh)
     refine Af (Ai Kf) (k := ?_)
     refine lL ?_
     refine bG ?_
     refine AO1 ?_
     refine oQ ?_
     refine Fk _ (sa (sd (sd (sa (sk (sk (sa (sa (sa (sa (sk (sk (sa (sa (sk (sa (sk (sa (sa (sa (sk (sk sz)))))))))))))))))))))) ?_
     refine Cs ?_
     refine oP ?_
     refine Zi ?_
     refine N1 ?_
     refine Eh ?_
     refine Po ?_
     exact Ip n_16 (i_13 + 1) (((x_14.take i_13) ++ ([(Aa.mk ((x_14.getD i_13 default).handle) ((x_14.getD i_13 default).name) 2 (((x_14.getD i_13 default).version) + 1) ((x_14.getD i_13 default).rules) ((x_14.getD i_13 default).creds) 0)] : List Aa)) ++ (x_14.drop (i_13 + 1))) (((x_14t.take i_13) ++ ([⟨(x_14t.getD i_13 default).ra, (x_14t.getD i_13 default).rc, (x_14t.getD i_13 default).ca, (x_14t.getD i_13 default).cc⟩] : List TA)) ++ (x_14t.drop (i_13 + 1))) ax221 cx221 (x_15 + 1) (Bx221 ++ x_14B) ⟨by omega, ((((hF17.pos hq12).pos hq13).pos hq14).pos hq15), ⟨((Bi.nb (U := (Bx221 ++ (B_1 ++ (x_14B ++ [])))) Av hox221 hdp21 (hB := sh) (hR := sh)).mono sh), (by have h0 := hox221.le'; rwa [Br hdp21.1] at h0)⟩, (by first | omega | assumption | exact Dm.mono Ey z2 | (refine Bk.put2 ?_ _ _ ⟨rfl, rfl⟩; assumption) | exact (Dd z2 _ z2).trans Ey | (refine (Dm.put Ey _ _ z2 rfl _ z2).mono ?_; omega)), (by first | omega | assumption | exact Dm.mono Ey z2 | (refine Bk.put2 ?_ _ _ ⟨rfl, rfl⟩; assumption) | exact (Dd z2 _ z2).trans Ey | (refine (Dm.put Ey _ _ z2 rfl _ z2).mono ?_; omega)), (by first | omega | assumption | exact Dm.mono Ey z2 | (refine Bk.put2 ?_ _ _ ⟨rfl, rfl⟩; assumption) | exact (Dd z2 _ z2).trans Ey | (refine (Dm.put Ey _ _ z2 rfl _ z2).mono ?_; omega)), (by first | omega | assumption | exact Dm.mono Ey z2 | (refine Bk.put2 ?_ _ _ ⟨rfl, rfl⟩; assumption) | exact (Dd z2 _ z2).trans Ey | (refine (Dm.put Ey _ _ z2 rfl _ z2).mono ?_; omega)), (by first | omega | assumption | exact Dm.mono Ey z2 | (refine Bk.put2 ?_ _ _ ⟨rfl, rfl⟩; assumption) | exact (Dd z2 _ z2).trans Ey | (refine (Dm.put Ey _ _ z2 rfl _ z2).mono ?_; omega)), (by first | omega | assumption | exact Dm.mono Ey z2 | (refine Bk.put2 ?_ _ _ ⟨rfl, rfl⟩; assumption) | exact (Dd z2 _ z2).trans Ey | (refine (Dm.put Ey _ _ z2 rfl _ z2).mono ?_; omega))⟩ (Nat.lt_succ_self _) se oH
  ·skip
   refine Lf rfl Ag J5 (k := fun r176 hr176 => ?_)
   have hdl22 := (Bs.one (B := (B_1 ++ (x_14B ++ []))) (D := DT) (x := (Aa.mk ((x_14.getD i_13 default).handle) ((x_14.getD i_13 default).name) 2 (((x_14.getD i_13 default).version) + 1) ((x_14.getD i_13 default).rules) ((x_14.getD i_13 default).creds) 0)) (t := (⟨(x_14t.getD i_13 default).ra, (x_14t.getD i_13 default).rc, (x_14t.getD i_13 default).ca, (x_14t.getD i_13 default).cc⟩ : TA)) (fun w hw => ⟨(hx_14.at (m := i_13) z3 w (Em hw)).1, (hx_14.at (m := i_13) z3 w (Em hw)).2.1, (hx_14.at (m := i_13) z3 w (Em hw)).2.2.1, (hx_14.at (m := i_13) z3 w (Em hw)).2.2.2⟩))
   refine Cr [5] z4 rfl (List.forall_mem_cons.2 ⟨?_, nofun⟩)
   ·skip
    refine Qj rfl (List.zip (x_14.take i_13) (x_14t.take i_13)) (List.nil_append _) Gd underlying26 Av Bi.nil (List.Perm.refl _) ((Cx.j hx_14 sh).take i_13).sl ⟨by first | exact lb, by first | exact lb⟩ (n := 0) (m := (x_14.take i_13).length) (hn := rfl) (hm := (Br (hx_14.take i_13).1)) (hzl := by rw [Br (hx_14.take i_13).1]; first | rfl | simp) (k := fun ax121 cx121 Bx121 hox121 => ?_)
    have hzl121 : (List.zip (x_14.take i_13) (x_14t.take i_13)).length = (x_14.take i_13).length := Br (hx_14.take i_13).1
    rw [hzl121]
    have hdp23 : Bs (B_1 ++ (x_14B ++ [])) DT (x_14.take i_13) (x_14t.take i_13) := (Bs.of (hx_14.take i_13)).mono sh
    refine Cr [8] z4 rfl (List.forall_mem_cons.2 ⟨?_, nofun⟩)
    ·skip
     refine Qj rfl (List.zip ((x_14.take i_13) ++ ([(Aa.mk ((x_14.getD i_13 default).handle) ((x_14.getD i_13 default).name) 2 (((x_14.getD i_13 default).version) + 1) ((x_14.getD i_13 default).rules) ((x_14.getD i_13 default).creds) 0)] : List Aa)) ((x_14t.take i_13) ++ ([⟨(x_14t.getD i_13 default).ra, (x_14t.getD i_13 default).rc, (x_14t.getD i_13 default).ca, (x_14t.getD i_13 default).cc⟩] : List TA))) (List.zip_append hdp23.1.symm).symm Gd underlying26 Av hox121 (List.Perm.refl _) (Bi.nj Av (Bi.mk (xs := List.zip ([(Aa.mk ((x_14.getD i_13 default).handle) ((x_14.getD i_13 default).name) 2 (((x_14.getD i_13 default).version) + 1) ((x_14.getD i_13 default).rules) ((x_14.getD i_13 default).creds) 0)] : List Aa) ([⟨(x_14t.getD i_13 default).ra, (x_14t.getD i_13 default).rc, (x_14t.getD i_13 default).ca, (x_14t.getD i_13 default).cc⟩] : List TA)) rfl rfl Av) hdl22 (hB := sh) (hR := sh)).sl ⟨by first | exact lb, by first | exact lb⟩ (n := (x_14.take i_13).length) (m := 1) (hn := (Br hdp23.1)) (hm := (Br hdl22.1)) (hzl := by rw [Br (by rw [List.length_append, List.length_append, hdp23.1, hdl22.1])]; first | rfl | simp) (k := fun ax181 cx181 Bx181 hox181 => ?_)
     have hzl181 : (List.zip ((x_14.take i_13) ++ ([(Aa.mk ((x_14.getD i_13 default).handle) ((x_14.getD i_13 default).name) 2 (((x_14.getD i_13 default).version) + 1) ((x_14.getD i_13 default).rules) ((x_14.getD i_13 default).creds) 0)] : List Aa)) ((x_14t.take i_13) ++ ([⟨(x_14t.getD i_13 default).ra, (x_14t.getD i_13 default).rc, (x_14t.getD i_13 default).ca, (x_14t.getD i_13 default).cc⟩] : List TA))).length = ((x_14.take i_13) ++ ([(Aa.mk ((x_14.getD i_13 default).handle) ((x_14.getD i_13 default).name) 2 (((x_14.getD i_13 default).version) + 1) ((x_14.getD i_13 default).rules) ((x_14.getD i_13 default).creds) 0)] : List Aa)).length := Br (by rw [List.length_append, List.length_append, hdp23.1, hdl22.1])
     rw [hzl181]
     have hal181 : ((x_14.take i_13) ++ ([(Aa.mk ((x_14.getD i_13 default).handle) ((x_14.getD i_13 default).name) 2 (((x_14.getD i_13 default).version) + 1) ((x_14.getD i_13 default).rules) ((x_14.getD i_13 default).creds) 0)] : List Aa)).length = (x_14.take i_13).length + 1 := List.length_append
     have hdp24 : Bs (B_1 ++ (x_14B ++ [])) DT ((x_14.take i_13) ++ ([(Aa.mk ((x_14.getD i_13 default).handle) ((x_14.getD i_13 default).name) 2 (((x_14.getD i_13 default).version) + 1) ((x_14.getD i_13 default).rules) ((x_14.getD i_13 default).creds) 0)] : List Aa)) ((x_14t.take i_13) ++ ([⟨(x_14t.getD i_13 default).ra, (x_14t.getD i_13 default).rc, (x_14t.getD i_13 default).ca, (x_14t.getD i_13 default).cc⟩] : List TA)) := Bs.append (hdp23.mono sh) (hdl22.mono sh)
     refine Ez 9 rfl z4 Fj (k := ?_)
     refine P9 ?_
     refine Me ?_
     refine AP8 ?_
     refine xD ?_
     refine J8 ?_
     have hld25 : (x_14.drop (i_13 + 1)).length = x_14.length - (i_13 + 1) := List.length_drop
     refine AQ6 ?_
     refine Az _ (List.zip_append hdp24.1.symm).symm Gd underlying26 Av hox181 q0 ((Cx.j hx_14 sh).off (i_13 + 1) x_14c Ru).sl ⟨by first | exact lb, by first | exact lb⟩ (n := ((x_14.take i_13) ++ ([(Aa.mk ((x_14.getD i_13 default).handle) ((x_14.getD i_13 default).name) 2 (((x_14.getD i_13 default).version) + 1) ((x_14.getD i_13 default).rules) ((x_14.getD i_13 default).creds) 0)] : List Aa)).length) (m := (x_14.drop (i_13 + 1)).length) (hn := (Br hdp24.1)) (hm := (Br (hx_14.off (i_13 + 1) x_14c Ru).1)) (k := fun ax221 cx221 Bx221 hox221 => ?_)
     rw [Br (AT0 hdp24.1 (hx_14.off (i_13 + 1) x_14c Ru).1)]
     have hal221 : (((x_14.take i_13) ++ ([(Aa.mk ((x_14.getD i_13 default).handle) ((x_14.getD i_13 default).name) 2 (((x_14.getD i_13 default).version) + 1) ((x_14.getD i_13 default).rules) ((x_14.getD i_13 default).creds) 0)] : List Aa)) ++ (x_14.drop (i_13 + 1))).length = ((x_14.take i_13) ++ ([(Aa.mk ((x_14.getD i_13 default).handle) ((x_14.getD i_13 default).name) 2 (((x_14.getD i_13 default).version) + 1) ((x_14.getD i_13 default).rules) ((x_14.getD i_13 default).creds) 0)] : List Aa)).length + (x_14.drop (i_13 + 1)).length := List.length_append
     have hdp26 : Bs (B_1 ++ (x_14B ++ [])) DT (((x_14.take i_13) ++ ([(Aa.mk ((x_14.getD i_13 default).handle) ((x_14.getD i_13 default).name) 2 (((x_14.getD i_13 default).version) + 1) ((x_14.getD i_13 default).rules) ((x_14.getD i_13 default).creds) 0)] : List Aa)) ++ (x_14.drop (i_13 + 1))) (((x_14t.take i_13) ++ ([⟨(x_14t.getD i_13 default).ra, (x_14t.getD i_13 default).rc, (x_14t.getD i_13 default).ca, (x_14t.getD i_13 default).cc⟩] : List TA)) ++ (x_14t.drop (i_13 + 1))) := Bs.append (hdp24.mono sh) ((Bs.of (hx_14.off (i_13 + 1) x_14c Ru)).mono sh)
     refine Af (Ai Kf) (k := ?_)
     refine lL ?_
     refine bG ?_
     refine AO1 ?_
     refine oQ ?_
     refine Fk _ (sa (sd (sd (sa (sk (sk (sa (sa (sa (sa (sk (sk (sa (sa (sk (sa (sk (sa (sa (sa (sk (sk sz)))))))))))))))))))))) ?_
     refine Cs ?_
     refine oP ?_
     refine Zi ?_
     refine N1 ?_
     refine Eh ?_
     refine Po ?_
     exact Ip n_16 (i_13 + 1) (((x_14.take i_13) ++ ([(Aa.mk ((x_14.getD i_13 default).handle) ((x_14.getD i_13 default).name) 2 (((x_14.getD i_13 default).version) + 1) ((x_14.getD i_13 default).rules) ((x_14.getD i_13 default).creds) 0)] : List Aa)) ++ (x_14.drop (i_13 + 1))) (((x_14t.take i_13) ++ ([⟨(x_14t.getD i_13 default).ra, (x_14t.getD i_13 default).rc, (x_14t.getD i_13 default).ca, (x_14t.getD i_13 default).cc⟩] : List TA)) ++ (x_14t.drop (i_13 + 1))) ax221 cx221 (x_15 + 1) (Bx221 ++ x_14B) ⟨by omega, ((((hF17.pos hq12).pos hq13).pos hq14).pos hq15), ⟨((Bi.nb (U := (Bx221 ++ (B_1 ++ (x_14B ++ [])))) Av hox221 hdp26 (hB := sh) (hR := sh)).mono sh), (by have h0 := hox221.le'; rwa [Br hdp26.1] at h0)⟩, (by first | omega | assumption | exact Dm.mono Ey z2 | (refine Bk.put2 ?_ _ _ ⟨rfl, rfl⟩; assumption) | exact (Dd z2 _ z2).trans Ey | (refine (Dm.put Ey _ _ z2 rfl _ z2).mono ?_; omega)), (by first | omega | assumption | exact Dm.mono Ey z2 | (refine Bk.put2 ?_ _ _ ⟨rfl, rfl⟩; assumption) | exact (Dd z2 _ z2).trans Ey | (refine (Dm.put Ey _ _ z2 rfl _ z2).mono ?_; omega)), (by first | omega | assumption | exact Dm.mono Ey z2 | (refine Bk.put2 ?_ _ _ ⟨rfl, rfl⟩; assumption) | exact (Dd z2 _ z2).trans Ey | (refine (Dm.put Ey _ _ z2 rfl _ z2).mono ?_; omega)), (by first | omega | assumption | exact Dm.mono Ey z2 | (refine Bk.put2 ?_ _ _ ⟨rfl, rfl⟩; assumption) | exact (Dd z2 _ z2).trans Ey | (refine (Dm.put Ey _ _ z2 rfl _ z2).mono ?_; omega)), (by first | omega | assumption | exact Dm.mono Ey z2 | (refine Bk.put2 ?_ _ _ ⟨rfl, rfl⟩; assumption) | exact (Dd z2 _ z2).trans Ey | (refine (Dm.put Ey _ _ z2 rfl _ z2).mono ?_; omega)), (by first | omega | assumption | exact Dm.mono Ey z2 | (refine Bk.put2 ?_ _ _ ⟨rfl, rfl⟩; assumption) | exact (Dd z2 _ z2).trans Ey | (refine (Dm.put Ey _ _ z2 rfl _ z2).mono ?_; omega))⟩ (Nat.lt_succ_self _) se oH

end Go.Proofs.YtopjaeoklkpcpaaGreatDoor.Jd

namespace Go.Proofs.YtopjaeoklkpcpaaGreatDoor.Jd
open Go.Proofs.Tryz
set_option maxRecDepth 100000
set_option linter.unusedVariables false
set_option linter.unusedSimpArgs false
theorem kT (a b : List Int) : K2 a b = true ↔ a = b := by
  unfold K2
  by_cases hl : a.length = b.length
  · rw [if_neg z2]
    rcases SlT.cmp_spec (a) (b) (Iu a b) (fun n k h => by simp only [Iu]; rw [if_neg z2]) (fun n k h e => by simp only [Iu]; rw [if_pos z2, if_neg (by simpa using e)]) (fun n k h e => by simp only [Iu]; rw [if_pos z2, if_pos (e)]) hl (a.length + 1) 0 z2 z2 with ⟨e, g⟩ | ⟨e, g⟩
    · simp only [e, Bn, true_iff]; exact SlT.getD_ext hl fun j hj => g j z2 hj
    · simp only [e, Bn, Bool.false_eq_true, false_iff]; exact g
  · rw [if_pos z2]
    simp only [Bool.false_eq_true, false_iff]; exact fun e => hl (by rw [e])
theorem sS (a b : List Bool) : T2 a b = true ↔ a = b := by
  unfold T2
  by_cases hl : a.length = b.length
  · rw [if_neg z2]
    rcases SlT.cmp_spec (a) (b) (Iv a b) (fun n k h => by simp only [Iv]; rw [if_neg z2]) (fun n k h e => by simp only [Iv]; rw [if_pos z2, if_neg (by simpa using e)]) (fun n k h e => by simp only [Iv]; rw [if_pos z2, if_pos (by simpa using e)]) hl (a.length + 1) 0 z2 z2 with ⟨e, g⟩ | ⟨e, g⟩
    · simp only [e, Bn, true_iff]; exact SlT.getD_ext hl fun j hj => g j z2 hj
    · simp only [e, Bn, Bool.false_eq_true, false_iff]; exact g
  · rw [if_pos z2]
    simp only [Bool.false_eq_true, false_iff]; exact fun e => hl (by rw [e])
theorem J1 (a b : List Bf) : B6 a b = true ↔ a = b := by
  unfold B6
  by_cases hl : a.length = b.length
  · rw [if_neg z2]
    rcases SlT.cmp_spec (a) (b) (Oj a b) (fun n k h => by simp only [Oj]; rw [if_neg z2]) (fun n k h e => by simp only [Oj]; rw [if_pos z2, if_neg (by rw [e]; simp)]) (fun n k h e => by simp only [Oj]; rw [if_pos z2, if_pos (fun c => e z59)]) hl (a.length + 1) 0 z2 z2 with ⟨e, g⟩ | ⟨e, g⟩
    · simp only [e, Bn, true_iff]; exact SlT.getD_ext hl fun j hj => g j z2 hj
    · simp only [e, Bn, Bool.false_eq_true, false_iff]; exact g
  · rw [if_pos z2]
    simp only [Bool.false_eq_true, false_iff]; exact fun e => hl (by rw [e])
theorem rF (a b : List Bf) : dU a b = true ↔ a = b := by
  unfold dU
  by_cases hl : a.length = b.length
  · rw [if_neg z2]
    rcases SlT.cmp_spec (a) (b) (Ji a b) (fun n k h => by simp only [Ji]; rw [if_neg z2]) (fun n k h e => by simp only [Ji]; rw [if_pos z2, if_neg (by rw [e]; simp)]) (fun n k h e => by simp only [Ji]; rw [if_pos z2, if_pos (fun c => e z59)]) hl (a.length + 1) 0 z2 z2 with ⟨e, g⟩ | ⟨e, g⟩
    · simp only [e, Bn, true_iff]; exact SlT.getD_ext hl fun j hj => g j z2 hj
    · simp only [e, Bn, Bool.false_eq_true, false_iff]; exact g
  · rw [if_pos z2]
    simp only [Bool.false_eq_true, false_iff]; exact fun e => hl (by rw [e])
theorem J2 (a b : List Bw) : B7 a b = true ↔ a = b := by
  unfold B7
  by_cases hl : a.length = b.length
  · rw [if_neg z2]
    rcases SlT.cmp_spec (a) (b) (Ok a b) (fun n k h => by simp only [Ok]; rw [if_neg z2]) (fun n k h e => by simp only [Ok]; rw [if_pos z2, if_neg (by rw [e]; simp)]) (fun n k h e => by simp only [Ok]; rw [if_pos z2, if_pos (fun c => e (by generalize a.getD k default = x at c ⊢; generalize b.getD k default = y at c ⊢; cases x; cases y; simp only at c; simp [c]))]) hl (a.length + 1) 0 z2 z2 with ⟨e, g⟩ | ⟨e, g⟩
    · simp only [e, Bn, true_iff]; exact SlT.getD_ext hl fun j hj => g j z2 hj
    · simp only [e, Bn, Bool.false_eq_true, false_iff]; exact g
  · rw [if_pos z2]
    simp only [Bool.false_eq_true, false_iff]; exact fun e => hl (by rw [e])
theorem rG (a b : List Bw) : dV a b = true ↔ a = b := by
  unfold dV
  by_cases hl : a.length = b.length
  · rw [if_neg z2]
    rcases SlT.cmp_spec (a) (b) (Jk a b) (fun n k h => by simp only [Jk]; rw [if_neg z2]) (fun n k h e => by simp only [Jk]; rw [if_pos z2, if_neg (by rw [e]; simp)]) (fun n k h e => by simp only [Jk]; rw [if_pos z2, if_pos (fun c => e (by generalize a.getD k default = x at c ⊢; generalize b.getD k default = y at c ⊢; cases x; cases y; simp only at c; simp [c]))]) hl (a.length + 1) 0 z2 z2 with ⟨e, g⟩ | ⟨e, g⟩
    · simp only [e, Bn, true_iff]; exact SlT.getD_ext hl fun j hj => g j z2 hj
    · simp only [e, Bn, Bool.false_eq_true, false_iff]; exact g
  · rw [if_pos z2]
    simp only [Bool.false_eq_true, false_iff]; exact fun e => hl (by rw [e])
theorem rH (a b : List Ap) : Zq a b = true ↔ a = b := by
  unfold Zq
  by_cases hl : a.length = b.length
  · rw [if_neg z2]
    rcases SlT.cmp_spec (a) (b) (Jl a b) (fun n k h => by simp only [Jl]; rw [if_neg z2]) (fun n k h e => by simp only [Jl]; rw [if_pos z2, if_neg (by simpa using e)]) (fun n k h e => by simp only [Jl]; rw [if_pos z2, if_pos (e)]) hl (a.length + 1) 0 z2 z2 with ⟨e, g⟩ | ⟨e, g⟩
    · simp only [e, Bn, true_iff]; exact SlT.getD_ext hl fun j hj => g j z2 hj
    · simp only [e, Bn, Bool.false_eq_true, false_iff]; exact g
  · rw [if_pos z2]
    simp only [Bool.false_eq_true, false_iff]; exact fun e => hl (by rw [e])
theorem iZ (a b : Ax) : dS a b = true ↔ a = b := by
  have e : dS a b = true ↔ a.gens = b.gens ∧ a.used = b.used ∧ a.free = b.free := by
    unfold dS
    rw [← kT, ← sS, ← kT]
    cases K2 a.gens b.gens <;> cases T2 a.used b.used <;> simp
  rw [e]
  constructor
  · cases a; cases b; rintro ⟨h1, h2, h3⟩; simp_all
  · rintro rfl; exact ⟨rfl, rfl, rfl⟩
theorem aV (a b : Aa) : Ud a b = true ↔ a = b := by
  have e : Ud a b = true ↔ (a.handle.slot = b.handle.slot ∧ a.handle.gen = b.handle.gen) ∧ a.name = b.name ∧ a.state = b.state ∧ a.version = b.version ∧ a.deadline = b.deadline ∧ a.rules = b.rules ∧ a.creds = b.creds := by
    unfold Ud
    rw [← J1, ← J2]
    repeat' split
    all_goals simp_all
  rw [e]
  constructor
  · rcases a with ⟨⟨a1, a2⟩, a3, a4, a5, a6, a7, a8⟩; rcases b with ⟨⟨b1, b2⟩, b3, b4, b5, b6, b7, b8⟩
    rintro ⟨⟨h1, h2⟩, h3, h4, h5, h6, h7, h8⟩
    simp only at h1 h2 h3 h4 h5 h6 h7 h8
    rw [h1, h2, h3, h4, h5, h6, h7, h8]
  · rintro rfl; simp
theorem Ot (a b : Aa) : Ra a b = true ↔ a = b := by
  have e : Ra a b = true ↔ (a.handle.slot = b.handle.slot ∧ a.handle.gen = b.handle.gen) ∧ a.name = b.name ∧ a.state = b.state ∧ a.version = b.version ∧ a.deadline = b.deadline ∧ a.rules = b.rules ∧ a.creds = b.creds := by
    unfold Ra
    rw [← rF, ← rG]
    repeat' split
    all_goals simp_all
  rw [e]
  constructor
  · rcases a with ⟨⟨a1, a2⟩, a3, a4, a5, a6, a7, a8⟩; rcases b with ⟨⟨b1, b2⟩, b3, b4, b5, b6, b7, b8⟩
    rintro ⟨⟨h1, h2⟩, h3, h4, h5, h6, h7, h8⟩
    simp only at h1 h2 h3 h4 h5 h6 h7 h8
    rw [h1, h2, h3, h4, h5, h6, h7, h8]
  · rintro rfl; simp
theorem jA (a b : Ac) : Yo a b = true ↔ a = b := by
  have key : (a.slots = b.slots ∧ a.seq = b.seq ∧ a.l = b.l) ↔ a = b := by
    constructor
    · cases a; cases b; rintro ⟨h1, h2, h3⟩; simp only at h1 h2 h3; rw [h1, h2, h3]
    · rintro rfl; exact ⟨rfl, rfl, rfl⟩
  rw [← key]
  unfold Yo
  by_cases h1 : a.slots = b.slots
  rotate_left
  · have h1' : dS a.slots b.slots = false := Bool.eq_false_iff.2 fun h => h1 ((iZ _ _).1 h)
    simp [h1, h1']
  rw [(iZ _ _).2 h1]
  by_cases h2 : a.seq = b.seq
  rotate_left
  · simp [h2]
  by_cases hl : a.l.length = b.l.length
  rotate_left
  · have h3 : ((a.l.length : Nat) : Int) ≠ ((b.l.length : Nat) : Int) := by omega
    simp only [h1, h2, h3, true_and, if_true, ne_eq, not_true_eq_false, not_false_eq_true, if_false, Bool.not_true, Bool.false_eq_true, false_iff]
    exact fun e => hl (by rw [e])
  have h3 : ((a.l.length : Nat) : Int) = ((b.l.length : Nat) : Int) := by omega
  simp only [h1, h2, h3, true_and, if_true, ne_eq, not_true_eq_false, not_false_eq_true, if_false, Bool.not_true, Bool.false_eq_true]
  rcases SlT.cmp_spec (a.l) (b.l) (Ln a b) (fun n k h => by simp only [Ln]; rw [if_neg z2]) (fun n k h e => by simp only [Ln]; rw [if_pos z2, if_neg (by rw [(aV _ _).2 e]; simp)]) (fun n k h e => by simp only [Ln]; rw [if_pos z2, if_pos (by simpa using fun c => e ((aV _ _).1 c))]) hl (a.l.length + 1) 0 z2 z2 with ⟨e, g⟩ | ⟨e, g⟩
  · simp only [e, Bn, true_iff]; exact SlT.getD_ext hl fun j hj => g j z2 hj
  · simp only [e, Bn, Bool.false_eq_true, false_iff]; exact g
theorem Rf (a b : Ac) : Ks a b = true ↔ a = b := by
  have key : (a.slots = b.slots ∧ a.seq = b.seq ∧ a.l = b.l) ↔ a = b := by
    constructor
    · cases a; cases b; rintro ⟨h1, h2, h3⟩; simp only at h1 h2 h3; rw [h1, h2, h3]
    · rintro rfl; exact ⟨rfl, rfl, rfl⟩
  rw [← key]
  unfold Ks
  by_cases h1 : a.slots = b.slots
  rotate_left
  · have h1' : Wr a.slots b.slots = false := Bool.eq_false_iff.2 fun h => h1 ((eX _ _).1 h)
    simp [h1, h1']
  rw [(eX _ _).2 h1]
  by_cases h2 : a.seq = b.seq
  rotate_left
  · simp [h2]
  by_cases hl : a.l.length = b.l.length
  rotate_left
  · have h3 : ((a.l.length : Nat) : Int) ≠ ((b.l.length : Nat) : Int) := by omega
    simp only [h1, h2, h3, true_and, if_true, ne_eq, not_true_eq_false, not_false_eq_true, if_false, Bool.not_true, Bool.false_eq_true, false_iff]
    exact fun e => hl (by rw [e])
  have h3 : ((a.l.length : Nat) : Int) = ((b.l.length : Nat) : Int) := by omega
  simp only [h1, h2, h3, true_and, if_true, ne_eq, not_true_eq_false, not_false_eq_true, if_false, Bool.not_true, Bool.false_eq_true]
  rcases SlT.cmp_spec (a.l) (b.l) (Jm a b) (fun n k h => by simp only [Jm]; rw [if_neg z2]) (fun n k h e => by simp only [Jm]; rw [if_pos z2, if_neg (by rw [(Ot _ _).2 e]; simp)]) (fun n k h e => by simp only [Jm]; rw [if_pos z2, if_pos (by simpa using fun c => e ((Ot _ _).1 c))]) hl (a.l.length + 1) 0 z2 z2 with ⟨e, g⟩ | ⟨e, g⟩
  · simp only [e, Bn, true_iff]; exact SlT.getD_ext hl fun j hj => g j z2 hj
  · simp only [e, Bn, Bool.false_eq_true, false_iff]; exact g
theorem aW : eT = true := by kernel_rfl
end Go.Proofs.YtopjaeoklkpcpaaGreatDoor.Jd

namespace Go.Proofs.YtopjaeoklkpcpaaGreatDoor.Jd
open Go.Proofs.Tryz
set_option linter.unusedVariables false
set_option linter.unusedSimpArgs false
def tkT (t : Aa) : Aa := Aa.mk t.handle t.name 2 (t.version + 1) t.rules t.creds 0
def tk (now : Int) : List Aa → Int → List Aa × Int
  | [], q => ([], q)
  | t :: r, q => if t.state = 3 ∧ t.deadline ≤ now ∧ q < 1000000000000 then (tkT t :: (tk now r (q + 1)).1, (tk now r (q + 1)).2) else (t :: (tk now r q).1, (tk now r q).2)
theorem oF {t x : Aa} {rest : List Aa} (hx : t.handle.slot = x.handle.slot) : ∀ {pre : List Aa}, (∀ u ∈ pre, u.handle.slot < t.handle.slot) → Fp (pre ++ t :: rest) x = pre ++ x :: rest
  | [], h => by show (if _ then _ else _) = _; rw [if_neg z2, if_pos hx]; rfl
  | u :: pre, h => by
    have := h u List.mem_cons_self
    show (if _ then _ else _) = _
    rw [if_pos z2]
    show u :: Fp (pre ++ t :: rest) x = _
    rw [oF hx fun v hv => h v (List.mem_cons_of_mem _ hv)]; rfl
theorem aX {r : Ac} (hr : Up (r.l.map Aa.handle)) (now : Int) : ∀ n i (pre : List Aa) q, r.l.length < i + n → i ≤ r.l.length → pre.map Aa.handle = (r.l.take i).map Aa.handle → (Fr r now n i (pre ++ r.l.drop i) q).2 = (pre ++ (tk now (r.l.drop i) q).1, (tk now (r.l.drop i) q).2)
  | 0, i, pre, q, h1, h2, h3 => by omega
  | n + 1, i, pre, q, h1, h2, h3 => by
    unfold Fr
    by_cases hi : i < r.l.length
    rotate_left
    · rw [if_neg z2, List.drop_eq_nil_of_le z2]; rfl
    rw [if_pos z2, Fe hi]
    have hlow : ∀ u ∈ pre, u.handle.slot < (r.l.getD i default).handle.slot := fun u hu => by
      have e : r.l.map Aa.handle = (r.l.take i).map Aa.handle ++ (r.l.drop i).map Aa.handle := by rw [← List.map_append, List.take_append_drop]
      unfold Up at hr
      rw [e, List.pairwise_append] at hr
      refine hr.2.2 _ (h3 ▸ List.mem_map.2 ⟨u, hu, rfl⟩) _ (List.mem_map.2 ⟨_, ?_, rfl⟩)
      rw [Fe hi]; exact List.mem_cons_self
    have hmap : ∀ x : Aa, x.handle = (r.l.getD i default).handle → (pre ++ [x]).map Aa.handle = (r.l.take (i + 1)).map Aa.handle := fun x hx => by
      rw [List.map_append, h3, SlT.take_succ' hi, List.map_append]; simp [hx]
    have go : ∀ (x : Aa) q', x.handle = (r.l.getD i default).handle → (Fr r now n (i + 1) (pre ++ x :: r.l.drop (i + 1)) q').2 = (pre ++ x :: (tk now (r.l.drop (i + 1)) q').1, (tk now (r.l.drop (i + 1)) q').2) := fun x q' hx => by
      have h := aX hr now n (i + 1) (pre ++ [x]) q' z2 z2 (hmap x hx)
      simpa using h
    generalize ht : r.l.getD i default = t at *
    unfold tk
    by_cases s3 : t.state = 3
    rotate_left
    · rw [if_pos s3, if_neg fun h => s3 h.1]; exact go t q rfl
    rw [if_neg (by simpa using s3)]
    by_cases hd : now < t.deadline
    · rw [if_pos hd, if_neg fun h => by omega]; exact go t q rfl
    rw [if_neg hd]
    by_cases hq : 1000000000000 ≤ q
    · rw [if_pos hq, if_neg fun h => by omega]; exact go t q rfl
    rw [if_neg hq, if_neg z2, if_pos ⟨s3, by omega, by omega⟩]
    show (Fr r now n (i + 1) (Fp (pre ++ t :: r.l.drop (i + 1)) (tkT t)) (q + 1)).2 = _
    rw [oF (show t.handle.slot = (tkT t).handle.slot from rfl) hlow]
    exact go (tkT t) (q + 1) rfl
theorem J3 {r : Ac} (h : Ev r) (now : Int) : Gp r now = Ac.mk r.slots (tk now r.l r.seq).1 (tk now r.l r.seq).2 := by
  unfold Gp
  rw [Nk.2 h, if_neg Hb]
  have e := aX h.up now (r.l.length + 1) 0 [] r.seq z2 z2 rfl
  rw [List.drop_zero, List.nil_append] at e
  generalize Fr r now (r.l.length + 1) 0 r.l r.seq = y at e
  obtain ⟨y1, y2, y3⟩ := y
  have e1 : y2 = _ := congrArg Prod.fst e
  have e2 : y3 = _ := congrArg Prod.snd e
  simp only [gG]
  rw [e1, e2]; rfl
theorem wV {r : Ac} (h : ¬ Ev r) (now : Int) : Gp r now = r := by
  unfold Gp
  rw [if_pos]
  cases hr : Ga r with
  | false => rfl
  | true => exact absurd (Nk.1 hr) h
end Go.Proofs.YtopjaeoklkpcpaaGreatDoor.Jd

namespace Go.Proofs.YtopjaeoklkpcpaaGreatDoor.Jd
open Go.Proofs.Tryz
set_option maxRecDepth 100000
set_option linter.unusedVariables false
set_option linter.unusedSimpArgs false
theorem Za (r : Ac) : ∀ n i acc, r.l.length < i + n → i ≤ r.l.length → (Kp r n i acc).2 = acc ++ (r.l.drop i).map Aa.name
  | 0, i, acc, h1, h2 => by omega
  | n + 1, i, acc, h1, h2 => by
    unfold Kp
    by_cases hi : i < r.l.length
    · rw [if_pos z2, Za r n (i + 1) _ z2 z2, Fe hi]; simp
    · rw [if_neg z2, List.drop_eq_nil_of_le z2]; simp
theorem wW (r : Ac) : Qy r = r.l.map Aa.name := by
  have h := Za r (r.l.length + 1) 0 [] z2 z2
  unfold Qy
  generalize Kp r (r.l.length + 1) 0 [] = y at h
  obtain ⟨y1, y2⟩ := y
  simpa [It] using h
end Go.Proofs.YtopjaeoklkpcpaaGreatDoor.Jd

namespace Go.Proofs.YtopjaeoklkpcpaaGreatDoor.Jd
open Go.Proofs.Tryz
set_option maxRecDepth 100000
set_option linter.unusedVariables false
set_option linter.unusedSimpArgs false
theorem Vt (r : Ac) (s : Ap) : ∀ n i, Bn (Hv r s n i) (fun r => r) (fun _ => (-1 : Int)) = if (Bn (Dz r s n i) (fun r => r) (fun _ => ((0 : Int), false))).2 = true then (Bn (Dz r s n i) (fun r => r) (fun _ => ((0 : Int), false))).1 else -1
  | 0, i => rfl
  | n + 1, i => by
    unfold Hv Dz
    by_cases h : ((i : Nat) : Int) < ((r.l.length : Nat) : Int)
    · rw [if_pos h, if_pos h]
      by_cases h2 : (r.l.getD i default).name = s
      · rw [if_pos h2, if_pos h2]; rfl
      · rw [if_neg h2, if_neg h2]; exact Vt r s n (i + 1)
    · rw [if_neg h, if_neg h]; rfl
theorem rI (r : Ac) (s : Ap) : Cw r s = if (Am r s).2 = true then (Am r s).1 else -1 := Vt r s _ 0
theorem Vu (r : Ac) : ∀ n i acc, r.l.length < i + n → i ≤ r.l.length → (Jc r n acc i).1 = acc ++ (r.l.drop i).map Aa.name
  | 0, i, acc, h1, h2 => by omega
  | n + 1, i, acc, h1, h2 => by
    unfold Jc
    by_cases hi : i < r.l.length
    · rw [if_pos z2, Vu r n (i + 1) _ z2 z2, Fe hi]; simp
    · rw [if_neg z2, List.drop_eq_nil_of_le z2]; simp
theorem rJ (r : Ac) : Mc r = r.l.map Aa.name := by
  have h := Vu r (r.l.length + 1) 0 [] z2 z2
  unfold Mc
  generalize Jc r (r.l.length + 1) [] 0 = y at h
  obtain ⟨y1, y2⟩ := y
  simpa [It] using h
theorem tA (n : Int) : Cu n = Eu n := by unfold Cu Eu; rw [X6]
theorem J4 (a b : Ac) : Yo a b = Ks a b := by rw [Bool.eq_iff_iff, jA, Rf]
theorem oG (r q : Ac) (n : Int) (s : Ap) (y1 : Bool) (y2 y3 : Int) (y4 : Ap) (y5 y6 : Int) (y7 : List Bf) (y8 : List Bw) (y9 : Int) : ∀ (fuel : Nat) (rest pre : List Aa) (k : Int), rest.length < fuel → (Co r q n s y1 y2 y3 y4 y5 y6 y7 y8 y9 fuel pre.length (pre ++ rest) k).2 = (pre ++ (tk n rest k).1, (tk n rest k).2)
  | 0, rest, pre, k, h => by omega
  | fuel + 1, [], pre, k, h => by
    unfold Co
    rw [if_neg Hb]; rfl
  | fuel + 1, t :: rest, pre, k, h => by
    unfold Co
    have hg : (pre ++ t :: rest).getD pre.length default = t := by simp [List.getD]
    have h' : rest.length < fuel := by simpa using h
    rw [if_pos (by rw [List.length_append, List.length_cons]; omega), hg]
    have go : ∀ (x : Aa) (k' : Int), (Co r q n s y1 y2 y3 y4 y5 y6 y7 y8 y9 fuel (pre.length + 1) (pre ++ x :: rest) k').2 = (pre ++ x :: (tk n rest k').1, (tk n rest k').2) := fun x k' => by
      have e := oG r q n s y1 y2 y3 y4 y5 y6 y7 y8 y9 fuel rest (pre ++ [x]) k' h'
      simpa using e
    unfold tk
    by_cases h1 : t.state = 3
    rotate_left
    · rw [if_neg h1, if_neg fun h => h1 h.1]; exact go t k
    rw [if_pos h1]
    by_cases h2 : t.deadline ≤ n
    rotate_left
    · rw [if_neg h2, if_neg fun h => h2 h.2.1]; exact go t k
    rw [if_pos h2]
    by_cases h3 : k < 1000000000000
    rotate_left
    · rw [if_neg h3, if_neg fun h => h3 h.2.2]; exact go t k
    rw [if_pos h3, if_pos ⟨h1, h2, h3⟩]
    have e : ((pre ++ t :: rest).take pre.length ++ [tkT t]) ++ (pre ++ t :: rest).drop (pre.length + 1) = pre ++ tkT t :: rest := by simp
    have g := go (tkT t) (k + 1)
    rw [← e] at g
    exact g
theorem fE (c : Ac) (n : Int) (L : Nat × List Aa × Int) (hL : L.2 = tk n c.l c.seq) : (if (!(Hl c)) = true then (Ks (Gp c n) c) else (gG L (fun i x y => (Ks (Gp c n) (Ac.mk c.slots x y))))) = true := by
  by_cases h : Ev c
  · rw [Tp.2 h, if_neg Hb]
    obtain ⟨l1, l2, l3⟩ := L
    have e1 : l2 = _ := congrArg Prod.fst hL
    have e2 : l3 = _ := congrArg Prod.snd hL
    simp only [gG]
    rw [Rf, J3 h, e1, e2]
  · have : Hl c = false := by
      cases hr : Hl c with
      | false => rfl
      | true => exact absurd (Tp.1 hr) h
    rw [this, if_pos (by rfl), Rf, wV h]
theorem Vc (r q : Ac) (n : Int) (s : Ap) : Hw r q n s = true := by
  unfold Hw
  generalize s.take (if 100 < ((s.length : Nat) : Int) then 100 else ((s.length : Nat) : Int)).toNat = nm
  have e0 : Ks (Cu n).1 (Eu n).1 = true := (Rf _ _).2 (by rw [tA])
  have e1 : (Cu n).2 = (Eu n).2 := by rw [tA]
  have e2 : (Ga (Bj r) == Hl (Bj r)) = true := by rw [Ww]; simp
  have e3 : (Yo (Bj r) (Bj q) == Ks (Bj r) (Bj q)) = true := by rw [J4]; simp
  have e4 : Yo (Bj r) (Bj r) = true := (jA _ _).2 rfl
  have e5 : Zq (Qy (Bj r)) (Mc (Bj r)) = true := (rH _ _).2 (by rw [wW, rJ])
  have hl := fun y1 y2 y3 y4 y5 y6 y7 y8 y9 => oG r q n s y1 y2 y3 y4 y5 y6 y7 y8 y9 ((Bj r).l.length + 1) (Bj r).l [] (Bj r).seq z2
  have hp := rI (Bj r) nm
  rcases aU (Bj r) nm with ⟨i, h1, h2, h3⟩ | ⟨h1, h2⟩
  · rw [h2, if_pos rfl] at hp
    have hp' : Cw (Bj r) nm = (i : Int) := hp
    rw [hp', if_neg z2]
    simp only [zN, Int.toNat_natCast]
    rw [if_pos aW, if_pos e0, if_pos e1, if_pos e2, if_pos e3, if_pos e4, if_pos ((Ot _ _).2 (by rw [sZ h2])), if_pos (by rw [sZ h2]; rfl), if_pos e5]
    exact fE (Bj r) n _ (hl _ _ _ _ _ _ _ _ _)
  · rw [h1, if_neg Hb] at hp
    rw [hp, if_pos z2]
    simp only [zN]
    rw [if_pos aW, if_pos e0, if_pos e1, if_pos e2, if_pos e3, if_pos e4, if_pos ((Ot _ _).2 (by rw [iY h2]; rfl)), if_pos (by rw [iY h2]; rfl), if_pos e5]
    exact fE (Bj r) n _ (hl _ _ _ _ _ _ _ _ _)
end Go.Proofs.YtopjaeoklkpcpaaGreatDoor.Jd

