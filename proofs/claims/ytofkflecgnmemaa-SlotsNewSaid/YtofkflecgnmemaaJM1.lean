/- The plain law of slots: what taking and giving back do. No condition. -/
import Derived.Test.YtofkflecgnmemaaJS1
namespace Go.Proofs.Ytofkflecgnmemaa.Jd
set_option linter.unusedSimpArgs false
set_option linter.unusedVariables false
theorem len_usedIx : ∀ (l : List Bool) (i : Nat), (usedIx i l).length = l.count true
  | [], _ => rfl
  | true :: r, i => by simp [usedIx, len_usedIx r (i + 1)]
  | false :: r, i => by simp [usedIx, len_usedIx r (i + 1)]
theorem cntU_eq (l : List Bool) : cntU l = l.count true := len_usedIx l 0
theorem count_set_true : ∀ (l : List Bool) (i : Nat), l[i]? = some false → (l.set i true).count true = l.count true + 1
  | [], _, h => by simp at h
  | b :: r, 0, h => by
    have : b = false := by simpa using h
    subst this; simp
  | b :: r, i + 1, h => by
    have := count_set_true r i (by simpa using h)
    cases b <;> simp [this]
theorem count_set_false : ∀ (l : List Bool) (i : Nat), l[i]? = some true → (l.set i false).count true + 1 = l.count true
  | [], _, h => by simp at h
  | b :: r, 0, h => by
    have : b = true := by simpa using h
    subst this; simp
  | b :: r, i + 1, h => by
    have := count_set_false r i (by simpa using h)
    cases b <;> simp <;> omega

/-- What taking gives. -/
structure TakeOk (gl : List Int) (ul : List Bool) (fl : List Int) (i : Nat) : Prop where
  right : rightB gl ul fl = true
  pos : fl.length ≠ 0
  last : lastI fl = (i : Int)
  lt : i < gl.length
  free : ul[i]? = some false
  gen : 0 ≤ gl.getD i default ∧ gl.getD i default < 1000000000
  eq : takeD gl ul fl = ((gl.set i (gl.getD i default + 1), ul.set i true, fl.take (fl.length - 1)), ((i : Int), gl.getD i default + 1), 0)

theorem take_cases (gl : List Int) (ul : List Bool) (fl : List Int) :
    (rightB gl ul fl = false ∧ takeD gl ul fl = (([], [], []), (0, 0), 90)) ∨ (rightB gl ul fl = true ∧ takeD gl ul fl = (([], [], []), (0, 0), 92)) ∨ ∃ i, TakeOk gl ul fl i := by
  cases hr : rightB gl ul fl with
  | false => exact .inl ⟨rfl, take_no hr⟩
  | true =>
    by_cases hf : fl.length = 0 ∨ gl.getD (fl.getD ((fl.length : Int) - 1).toNat default).toNat default = 1000000000
    · exact .inr (.inl ⟨rfl, take_full hr hf⟩)
    · rw [not_or] at hf
      have h1 := right_last hr hf.1
      obtain ⟨c1, c2, c3, c4, c5⟩ := h1
      refine .inr (.inr ⟨(lastI fl).toNat, hr, hf.1, ?_, ?_, ?_, ?_, ?_⟩)
      · have : 0 ≤ lastI fl := c1
        omega
      · have : lastI fl < gl.length := c2
        omega
      · have hlt : ((fl.length : Int) - 1).toNat < fl.length := by omega
        have hm : lastI fl ∈ fl := by unfold lastI; rw [getD_lt hlt]; exact List.getElem_mem hlt
        obtain ⟨d1, d2, d3⟩ := (rightB_iff.1 hr).2.2.1.1 _ hm
        have hl : (lastI fl).toNat < ul.length := by omega
        rw [getD_lt hl] at d3
        rw [List.getElem?_eq_getElem hl, d3]
      · have h2 : ¬ gl.getD (lastI fl).toNat default = 1000000000 := hf.2
        have h3 : 0 ≤ gl.getD (lastI fl).toNat default := c4
        have h4 : gl.getD (lastI fl).toNat default ≤ 1000000000 := c5
        omega
      · have h0 : ((lastI fl).toNat : Int) = lastI fl := by have : 0 ≤ lastI fl := c1; omega
        rw [take_yes hr hf.1 hf.2, h0]

theorem take_right {gl : List Int} {ul : List Bool} {fl : List Int} {i : Nat} (h : TakeOk gl ul fl i) : rightB (gl.set i (gl.getD i default + 1)) (ul.set i true) (fl.take (fl.length - 1)) = true := by
  obtain ⟨⟨g1, g2, g3⟩, h2, ⟨h3, h4⟩, h5⟩ := rightB_iff.1 h.right
  have hg := h.gen
  refine rightB_iff.2 ⟨by simp only [List.length_set]; omega, fun x hx => ?_, ⟨fun x hx => ?_, ?_⟩, ?_⟩
  · rcases List.mem_or_eq_of_mem_set hx with hx | rfl
    · exact h2 x hx
    · omega
  · have hx' := List.mem_of_mem_take hx
    obtain ⟨d1, d2, d3⟩ := h3 x hx'
    refine ⟨d1, by simp only [List.length_set]; exact d2, ?_⟩
    have hne : x.toNat ≠ i := fun e => by
      have hlt : fl.length - 1 < fl.length := by have := h.pos; omega
      have e2 : x = lastI fl := by rw [h.last]; omega
      have hsplit : fl = fl.take (fl.length - 1) ++ [lastI fl] := by
        have := take_succ' (xs := fl) (k := fl.length - 1) hlt
        rw [show fl.length - 1 + 1 = fl.length by omega, List.take_length] at this
        have e3 : lastI fl = fl.getD (fl.length - 1) default := by unfold lastI; congr 1; omega
        rw [e3]; exact this
      rw [hsplit, List.nodup_append] at h4
      exact h4.2.2 x hx (lastI fl) (by simp) e2
    have hl : x.toNat < ul.length := by omega
    rw [getD_lt hl] at d3
    rw [getD_lt (by simp only [List.length_set]; exact hl), List.getElem_set_ne (fun e => hne e.symm), d3]
  · exact h4.sublist (List.take_sublist _ _)
  · rw [cntU_eq, count_set_true _ _ h.free, List.length_set, List.length_take]
    rw [cntU_eq] at h5
    have := h.pos
    omega
theorem allD_mem {gl : List Int} {ul : List Bool} {fl : List Int} {p q : Int} (h : rightB gl ul fl = true) : (p, q) ∈ allD gl ul fl ↔ 0 ≤ p ∧ ul[p.toNat]? = some true ∧ gl.getD p.toNat default = q := by
  rw [← hnd_mem]; simp [allD, h]
theorem allD_len {gl : List Int} {ul : List Bool} {fl : List Int} (h : rightB gl ul fl = true) : (allD gl ul fl).length = ul.count true := by
  simp [allD, h, hnd, len_usedIx]
section
variable {gl : List Int} {ul : List Bool} {fl : List Int} {i : Nat}
theorem take_new (h : TakeOk gl ul fl i) : ¬ ((i : Int), gl.getD i default + 1) ∈ allD gl ul fl := fun hm => by
  have := ((allD_mem h.right).1 hm).2.1
  rw [Int.toNat_natCast, h.free] at this
  simp at this
theorem take_has (h : TakeOk gl ul fl i) : ((i : Int), gl.getD i default + 1) ∈ allD (gl.set i (gl.getD i default + 1)) (ul.set i true) (fl.take (fl.length - 1)) := by
  have hl : i < ul.length := (List.getElem?_eq_some_iff.1 h.free).1
  refine (allD_mem (take_right h)).2 ⟨by omega, ?_, ?_⟩
  · rw [Int.toNat_natCast, List.getElem?_set_self hl]
  · rw [Int.toNat_natCast, getD_set_self h.lt]
theorem take_others (h : TakeOk gl ul fl i) {p q : Int} (hne : ¬ (p = (i : Int) ∧ q = gl.getD i default + 1)) : (p, q) ∈ allD gl ul fl ↔ (p, q) ∈ allD (gl.set i (gl.getD i default + 1)) (ul.set i true) (fl.take (fl.length - 1)) := by
  have hl : i < ul.length := (List.getElem?_eq_some_iff.1 h.free).1
  rw [allD_mem h.right, allD_mem (take_right h)]
  by_cases hp : p.toNat = i
  · subst hp
    rw [h.free, List.getElem?_set_self hl, getD_set_self h.lt]
    constructor
    · rintro ⟨_, h2, _⟩; simp at h2
    · rintro ⟨h1, _, h3⟩
      exact absurd ⟨by omega, h3.symm⟩ hne
  · rw [List.getElem?_set_ne (fun e => hp e.symm)]
    have : (gl.set i (gl.getD i default + 1)).getD p.toNat default = gl.getD p.toNat default := by
      simp only [List.getD, List.getElem?_set_ne (fun e => hp e.symm)]
    rw [this]
theorem take_count (h : TakeOk gl ul fl i) : (allD (gl.set i (gl.getD i default + 1)) (ul.set i true) (fl.take (fl.length - 1))).length = (allD gl ul fl).length + 1 := by
  rw [allD_len h.right, allD_len (take_right h), count_set_true _ _ h.free]
end
end Go.Proofs.Ytofkflecgnmemaa.Jd
