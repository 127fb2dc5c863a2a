/- The plain law of slots: giving back; a handle that is dead stays so. No condition. -/
import Derived.Test.YtofkflecgnmemaaJM1
namespace Go.Proofs.Ytofkflecgnmemaa.Jd
set_option linter.unusedSimpArgs false
set_option linter.unusedVariables false
def Dead (p q : Int) (gl : List Int) (ul : List Bool) : Prop := 0 ≤ p ∧ p.toNat < gl.length ∧ q ≤ gl.getD p.toNat default ∧ (gl.getD p.toNat default = q → ul[p.toNat]? = some false)
theorem dead_not {p q : Int} {gl : List Int} {ul : List Bool} {fl : List Int} (h : rightB gl ul fl = true) (hd : Dead p q gl ul) : ¬ (p, q) ∈ allD gl ul fl := fun hm => by
  obtain ⟨_, h2, h3⟩ := (allD_mem h).1 hm
  rw [hd.2.2.2 h3] at h2
  simp at h2
theorem dead_take {p q : Int} {gl : List Int} {ul : List Bool} {fl : List Int} {i : Nat} (h : TakeOk gl ul fl i) (hd : Dead p q gl ul) : Dead p q (gl.set i (gl.getD i default + 1)) (ul.set i true) ∧ ¬ ((i : Int) = p ∧ gl.getD i default + 1 = q) := by
  obtain ⟨h1, h2, h3, h4⟩ := hd
  by_cases hp : p.toNat = i
  · subst hp
    refine ⟨⟨h1, by simpa using h2, ?_, ?_⟩, ?_⟩
    · rw [getD_set_self h.lt]; omega
    · rw [getD_set_self h.lt]; intro e; omega
    · rintro ⟨_, e⟩; omega
  · have hg : (gl.set i (gl.getD i default + 1)).getD p.toNat default = gl.getD p.toNat default := by
      simp only [List.getD, List.getElem?_set_ne (fun e => hp e.symm)]
    refine ⟨⟨h1, by simpa using h2, by rw [hg]; exact h3, ?_⟩, fun e => hp (by rw [← e.1]; simp)⟩
    rw [hg, List.getElem?_set_ne (fun e => hp e.symm)]; exact h4
theorem dead_give {p q : Int} {gl : List Int} {ul : List Bool} {s : Nat} (hs : s < ul.length) (hd : Dead p q gl ul) : Dead p q gl (ul.set s false) := by
  refine ⟨hd.1, hd.2.1, hd.2.2.1, fun e => ?_⟩
  by_cases hp : s = p.toNat
  · subst hp; rw [List.getElem?_set_self hs]
  · rw [List.getElem?_set_ne hp]; exact hd.2.2.2 e
theorem dead_given {p q : Int} {gl : List Int} {ul : List Bool} {fl : List Int} (h : rightB gl ul fl = true) (hm : (p, q) ∈ allD gl ul fl) : Dead p q gl (ul.set p.toNat false) := by
  obtain ⟨h1, h2, h3⟩ := (allD_mem h).1 hm
  have hl := (List.getElem?_eq_some_iff.1 h2).1
  have hlen := (rightB_iff.1 h).1.2.2
  exact ⟨h1, by omega, by omega, fun _ => List.getElem?_set_self hl⟩
theorem give_right {p q : Int} {gl : List Int} {ul : List Bool} {fl : List Int} (h : rightB gl ul fl = true) (hm : (p, q) ∈ allD gl ul fl) : rightB gl (ul.set p.toNat false) (fl ++ [p]) = true := by
  obtain ⟨h1, h2, _⟩ := (allD_mem h).1 hm
  have hl := (List.getElem?_eq_some_iff.1 h2).1
  obtain ⟨⟨g1, g2, g3⟩, k2, ⟨k3, k4⟩, k5⟩ := rightB_iff.1 h
  have hu : ul.getD p.toNat default = true := by rw [getD_lt hl]; exact (List.getElem?_eq_some_iff.1 h2).2
  refine rightB_iff.2 ⟨⟨g1, g2, by simp only [List.length_set]; exact g3⟩, k2, ⟨fun x hx => ?_, ?_⟩, ?_⟩
  · simp only [List.length_set]
    rcases List.mem_append.1 hx with hx | hx
    · obtain ⟨d1, d2, d3⟩ := k3 x hx
      refine ⟨d1, d2, ?_⟩
      have hlx : x.toNat < ul.length := by omega
      rw [getD_lt (by simp only [List.length_set]; exact hlx), List.getElem_set]
      split
      · rfl
      · rw [getD_lt hlx] at d3; exact d3
    · have := List.mem_singleton.1 hx
      subst this
      refine ⟨h1, by omega, ?_⟩
      rw [getD_lt (by simp only [List.length_set]; exact hl), List.getElem_set_self]
  · rw [List.nodup_append]
    refine ⟨k4, by simp, fun a ha b hb e => ?_⟩
    have := List.mem_singleton.1 hb
    subst this
    subst e
    have := (k3 a ha).2.2
    rw [hu] at this
    cases this
  · have := count_set_false _ _ h2
    rw [cntU_eq] at k5 ⊢
    simp only [List.length_append, List.length_singleton]
    omega
end Go.Proofs.Ytofkflecgnmemaa.Jd
