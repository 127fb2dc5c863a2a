/- Credentials: the laws of rotating, ending, the first one, two rotations. No condition. -/
import Derived.Test.YtcmondhpiahchaaGreatDoorJPX
namespace Go.Proofs.YtcmondhpiahchaaGreatDoor.Jd
set_option linter.unusedSimpArgs false
set_option linter.unusedVariables false
theorem idC_bd : ∀ (l : List Cred) (i : Int), (∀ c ∈ l, i ≤ c.id) → l.Pairwise (fun a b => a.id < b.id) → i ≤ idC i l ∧ ∀ c ∈ l, c.id < idC i l
  | [], i, _, _ => ⟨Int.le_refl _, nofun⟩
  | c :: r, i, h, hp => by
    rw [List.pairwise_cons] at hp
    have h1 := h c List.mem_cons_self
    obtain ⟨g1, g2⟩ := idC_bd r (c.id + 1) (fun d hd => by have := hp.1 d hd; omega) hp.2
    show i ≤ idC (c.id + 1) r ∧ ∀ d ∈ c :: r, d.id < idC (c.id + 1) r
    refine ⟨by omega, fun d hd => ?_⟩
    rcases List.mem_cons.1 hd with rfl | hd
    · omega
    · exact g2 d hd
theorem RightL.idC {l : List Cred} (h : RightL l) : 1 ≤ idC 1 l ∧ ∀ c ∈ l, c.id < Jd.idC 1 l :=
  idC_bd l 1 (fun c hc => (h.2.1 c hc).1.1) h.2.2
theorem trimC_some {now ov : Int} {c d : Cred} : trimC now ov c = some d ↔ now < c.to ∧ c.frm < trimTo now ov c ∧ d = ⟨c.id, c.key, c.frm, trimTo now ov c⟩ := by
  unfold trimC
  split
  · simp; omega
  · split
    · simp; constructor
      · rintro rfl; exact ⟨by omega, by assumption, rfl⟩
      · rintro ⟨_, _, rfl⟩; rfl
    · simp; omega
theorem trimTo_le {now ov : Int} {c : Cred} : trimTo now ov c ≤ c.to ∧ trimTo now ov c ≤ now + ov ∧ (trimTo now ov c = c.to ∨ trimTo now ov c = now + ov) := by
  unfold trimTo; split <;> omega
structure RotOk (l : List Cred) (key : Str) (now ov span : Int) : Prop where
  right : RightL l
  kk : 1 ≤ key.length ∧ key.length ≤ 64
  nn : 0 ≤ now ∧ now ≤ 1000000000000
  oo : 0 ≤ ov ∧ ov ≤ 1000000000
  ss : 1 ≤ span ∧ span ≤ 1000000000
  sum : now + span ≤ 1000000000000
  few : (l.filterMap (trimC now ov)).length + 1 ≤ 4
  id : idC 1 l ≤ 1000000000
  out : (cRot l key now ov span).1 = l.filterMap (trimC now ov) ++ [⟨idC 1 l, key, now, now + span⟩]
  idv : (cRot l key now ov span).2.1 = idC 1 l
theorem rot_ok {l : List Cred} {key : Str} {now ov span : Int} (h : (cRot l key now ov span).2.2 = 0) : RotOk l key now ov span := by
  have e := cRot_eq l key now ov span
  unfold rotC at e
  split at e
  · rw [e] at h; simp at h
  · rename_i h1
    split at e
    · rw [e] at h; simp at h
    · rename_i h2
      split at e
      · rw [e] at h; simp at h
      · rename_i h3
        split at e
        · rw [e] at h; simp at h
        · rename_i h4
          have h3' := Classical.not_not.1 h3
          obtain ⟨a1, a2, a3, a4⟩ := h3'
          exact ⟨cRight_iff.1 (Classical.not_not.1 h1), mRight_iff.1 (Classical.not_not.1 h2), a1, a2, a3, a4, by omega, by omega, by rw [e], by rw [e]⟩
theorem rot_bad {l : List Cred} {key : Str} {now ov span : Int} (h : (cRot l key now ov span).2.2 ≠ 0) : (cRot l key now ov span).1 = [] ∧ (cRot l key now ov span).2.1 = 0 := by
  have e := cRot_eq l key now ov span
  unfold rotC at e
  repeat' split at e
  all_goals rw [e] at h ⊢
  all_goals first | exact ⟨rfl, rfl⟩ | exact absurd rfl h
variable {l : List Cred} {key : Str} {now ov span : Int}
theorem RotOk.mem (h : RotOk l key now ov span) {d : Cred} : d ∈ (cRot l key now ov span).1 ↔ (∃ c ∈ l, trimC now ov c = some d) ∨ d = ⟨idC 1 l, key, now, now + span⟩ := by
  rw [h.out, List.mem_append, List.mem_filterMap]
  simp
theorem RotOk.isRight (h : RotOk l key now ov span) : RightL (cRot l key now ov span).1 := by
  have hid := h.right.idC
  refine ⟨?_, fun d hd => ?_, ?_⟩
  · rw [h.out, List.length_append]; have := h.few; simp; omega
  · rcases h.mem.1 hd with ⟨c, hc, ht⟩ | rfl
    · obtain ⟨t1, t2, rfl⟩ := trimC_some.1 ht
      obtain ⟨g1, g2, g3, g4, g5⟩ := h.right.2.1 c hc
      have := @trimTo_le now ov c
      exact ⟨g1, g2, g3, t2, by show trimTo now ov c ≤ _; omega⟩
    · have := h.id; have := h.sum; have := h.ss; have := h.nn
      exact ⟨⟨hid.1, h.id⟩, h.kk, h.nn.1, by show now < now + span; omega, h.sum⟩
  · rw [h.out, List.pairwise_append]
    refine ⟨?_, List.pairwise_singleton _ _, fun a ha b hb => ?_⟩
    · refine List.Pairwise.filterMap _ (fun a a' haa b hb b' hb' => ?_) h.right.2.2
      obtain ⟨_, _, rfl⟩ := trimC_some.1 hb
      obtain ⟨_, _, rfl⟩ := trimC_some.1 hb'
      exact haa
    · obtain ⟨c, hc, ht⟩ := List.mem_filterMap.1 ha
      obtain ⟨_, _, rfl⟩ := trimC_some.1 ht
      have : b = ⟨Jd.idC 1 l, key, now, now + span⟩ := by simpa using hb
      subst this
      exact hid.2 c hc
/-- Who holds behind it, of which number. -/
theorem RotOk.holds (h : RotOk l key now ov span) {at_ id : Int} (hat : now ≤ at_) : (∃ d ∈ cHolding (cRot l key now ov span).1 at_, d.id = id) ↔
    (∃ c ∈ l, c.id = id ∧ now < c.to ∧ c.frm ≤ at_ ∧ at_ < c.to ∧ at_ < now + ov) ∨ (id = idC 1 l ∧ at_ < now + span) := by
  rw [cHolding_eq h.isRight]
  constructor
  · rintro ⟨d, hd, rfl⟩
    obtain ⟨hd, hh⟩ := List.mem_filter.1 hd
    obtain ⟨b1, b2⟩ := cHolds_iff.1 hh
    rcases h.mem.1 hd with ⟨c, hc, ht⟩ | rfl
    · obtain ⟨t1, t2, rfl⟩ := trimC_some.1 ht
      have := @trimTo_le now ov c
      simp only at b1 b2
      exact .inl ⟨c, hc, rfl, t1, b1, by omega, by omega⟩
    · exact .inr ⟨rfl, b2⟩
  · rintro (⟨c, hc, rfl, b1, b2, b3, b4⟩ | ⟨rfl, b1⟩)
    · have ht : at_ < trimTo now ov c := by unfold trimTo; split <;> omega
      exact ⟨⟨c.id, c.key, c.frm, trimTo now ov c⟩, List.mem_filter.2 ⟨h.mem.2 (.inl ⟨c, hc, trimC_some.2 ⟨b1, by omega, rfl⟩⟩), cHolds_iff.2 ⟨b2, ht⟩⟩, rfl⟩
    · exact ⟨⟨idC 1 l, key, now, now + span⟩, List.mem_filter.2 ⟨h.mem.2 (.inr rfl), cHolds_iff.2 ⟨hat, b1⟩⟩, rfl⟩
theorem uniq_id {l : List Cred} (h : RightL l) {c d : Cred} (hc : c ∈ l) (hd : d ∈ l) (he : c.id = d.id) : c = d := by
  obtain ⟨i, hi, rfl⟩ := List.mem_iff_getElem.1 hc
  obtain ⟨j, hj, rfl⟩ := List.mem_iff_getElem.1 hd
  have hp := List.pairwise_iff_getElem.1 h.2.2
  rcases Nat.lt_trichotomy i j with hij | rfl | hij
  · have := hp i j hi hj hij; omega
  · rfl
  · have := hp j i hj hi hij; omega
theorem getD_mem {l : List Cred} {k : Nat} (h : k < l.length) : l.getD k default ∈ l := by simp [List.getD, h]
/-! ### the law on the overlap -/
theorem lCredOverlap_l0_ok (l : List Cred) (key : Str) (now ov span at_ : Int) (h : ∀ i, i < (cHolding (cFew l) now).length → cInL (cHolding (cRot (cFew l) (cCut key) now ov span).1 at_) ((cHolding (cFew l) now).getD i default).id = decide (at_ < ((cHolding (cFew l) now).getD i default).to ∧ at_ < now + ov)) :
    ∀ n k, ∃ x, lCredOverlap_l0 l key now ov span at_ n k = .ok x
  | 0, k => ⟨_, rfl⟩
  | n + 1, k => by
    rw [lCredOverlap_l0]
    by_cases hk : k < (cHolding (cFew l) now).length
    · rw [if_pos (by omega), h k hk]
      have ih := lCredOverlap_l0_ok l key now ov span at_ h n (k + 1)
      generalize (cHolding (cFew l) now).getD k default = c
      by_cases h1 : at_ < c.to
      · rw [if_pos h1, if_neg (by simp [h1])]
        exact ih
      · rw [if_neg h1, if_neg (by simp [h1])]
        exact ih
    · rw [if_neg (by omega)]
      exact ⟨_, rfl⟩
theorem lCredOverlap_true (l : List Cred) (key : Str) (now overlap span at_ : Int) : lCredOverlap l key now overlap span at_ = true := by
  unfold lCredOverlap
  by_cases he : (cRot (cFew l) (cCut key) now overlap span).2.2 = 0
  · have h := rot_ok he
    have hid := h.right.idC
    rw [if_neg (by simpa using he)]
    by_cases hat : at_ < now
    · rw [if_pos hat, if_pos cShown_true]
      exact cRight_iff.2 h.isRight
    · rw [if_neg hat, cRight_iff.2 h.isRight, if_neg (by simp)]
      have h1 : cInL (cFew l) (cRot (cFew l) (cCut key) now overlap span).2.1 = false := by
        cases hc : cInL (cFew l) (cRot (cFew l) (cCut key) now overlap span).2.1
        · rfl
        · obtain ⟨c, hc1, hc2⟩ := cInL_iff.1 hc
          have := hid.2 c hc1
          rw [h.idv] at hc2; omega
      have h2 : cInL (cHolding (cRot (cFew l) (cCut key) now overlap span).1 at_) (cRot (cFew l) (cCut key) now overlap span).2.1 = decide (at_ < now + span) := cInL_eq (by
        rw [h.holds (by omega), h.idv]
        constructor
        · rintro (⟨c, hc, hi, _⟩ | ⟨_, hs⟩)
          · have := hid.2 c hc; omega
          · exact hs
        · exact fun hs => .inr ⟨rfl, hs⟩)
      rw [h1, if_neg (by simp), h2, if_neg (by simp)]
      obtain ⟨x, hx⟩ := lCredOverlap_l0_ok l key now overlap span at_ (fun i hi => cInL_eq (by
        have hm := getD_mem hi
        generalize (cHolding (cFew l) now).getD i default = c at hm ⊢
        rw [cHolding_eq h.right] at hm
        obtain ⟨hm, hh⟩ := List.mem_filter.1 hm
        have hh := cHolds_iff.1 hh
        rw [h.holds (by omega)]
        constructor
        · rintro (⟨d, hd, hi, b1, b2, b3, b4⟩ | ⟨hi, _⟩)
          · have := uniq_id h.right hd hm hi
            subst this
            exact ⟨b3, b4⟩
          · have := hid.2 c hm; omega
        · rintro ⟨b1, b2⟩
          exact .inl ⟨c, hm, rfl, hh.2, by omega, b1, b2⟩)) ((cHolding (cFew l) now).length + 1) 0
      rw [hx]
      simp only [outc1, cShown_true]
  · obtain ⟨h1, h2⟩ := rot_bad he
    rw [if_pos he, if_pos cShown_true, h1, if_pos (by simp), h2]
    simp
/-! ### the first one -/
theorem lCredNew_true (key : Str) (now span at_ : Int) : lCredNew key now span at_ = true := by
  unfold lCredNew
  by_cases he : (cRot [] (cCut key) now 0 span).2.2 = 0
  · have h := rot_ok he
    rw [if_neg (by simpa using he), if_pos cShown_true, h.idv, if_pos (by simp [idC])]
    have ho := h.out
    simp only [List.filterMap_nil, List.nil_append] at ho
    have hh := cHolding_eq h.isRight at_
    rw [ho] at hh ⊢
    rw [if_pos (by simp), if_pos (by simp), hh]
    by_cases h1 : now ≤ at_
    · rw [if_pos h1]
      by_cases h2 : at_ < now + span
      · have : cHolds ⟨idC 1 [], cCut key, now, now + span⟩ at_ = true := cHolds_iff.2 ⟨h1, h2⟩
        simp [this, h2]
      · have : cHolds ⟨idC 1 [], cCut key, now, now + span⟩ at_ = false := by
          cases hc : cHolds ⟨idC 1 [], cCut key, now, now + span⟩ at_
          · rfl
          · exact absurd (cHolds_iff.1 hc).2 h2
        simp [this, h2]
    · rw [if_neg h1]
      have : cHolds ⟨idC 1 [], cCut key, now, now + span⟩ at_ = false := by
        cases hc : cHolds ⟨idC 1 [], cCut key, now, now + span⟩ at_
        · rfl
        · exact absurd (cHolds_iff.1 hc).1 h1
      simp [this]
  · obtain ⟨h1, h2⟩ := rot_bad he
    rw [if_pos he, if_pos cShown_true, h1, if_pos (by simp), h2]
    simp

/-! ### ending -/
theorem endC_some {id now : Int} {c d : Cred} (hg : c.frm < c.to) : endC id now c = some d ↔ (c.id = id ∧ (c.frm ≤ now ∧ now < c.to) ∧ c.frm < now ∧ d = ⟨c.id, c.key, c.frm, now⟩) ∨ (¬ (c.id = id ∧ c.frm ≤ now ∧ now < c.to) ∧ d = c) := by
  unfold endC
  by_cases h : c.id = id ∧ cHolds c now = true
  · rw [if_pos h]
    have hh := cHolds_iff.1 h.2
    by_cases h2 : c.frm < now
    · rw [if_pos h2]
      constructor
      · intro e; exact .inl ⟨h.1, hh, h2, (Option.some.inj e).symm⟩
      · rintro (⟨_, _, _, rfl⟩ | ⟨hn, _⟩)
        · rfl
        · exact absurd ⟨h.1, hh⟩ hn
    · rw [if_neg h2]
      constructor
      · intro e; cases e
      · rintro (⟨_, _, h3, _⟩ | ⟨hn, _⟩)
        · exact absurd h3 h2
        · exact absurd ⟨h.1, hh⟩ hn
  · rw [if_neg h, if_pos hg]
    have hn : ¬ (c.id = id ∧ c.frm ≤ now ∧ now < c.to) := fun e => h ⟨e.1, cHolds_iff.2 e.2⟩
    constructor
    · intro e; exact .inr ⟨hn, (Option.some.inj e).symm⟩
    · rintro (⟨h1, h2, _⟩ | ⟨_, rfl⟩)
      · exact absurd ⟨h1, h2⟩ hn
      · rfl
structure EndOk (l : List Cred) (id now : Int) : Prop where
  right : RightL l
  nn : 0 ≤ now ∧ now ≤ 1000000000000
  found : ∃ c ∈ l, c.id = id ∧ c.frm ≤ now ∧ now < c.to
  out : (cEnd l id now).1 = l.filterMap (endC id now)
theorem end_ok {l : List Cred} {id now : Int} (h : (cEnd l id now).2 = 0) : EndOk l id now := by
  have e := cEnd_eq l id now
  split at e
  · rw [e] at h; simp at h
  · rename_i h1
    split at e
    · rw [e] at h; simp at h
    · rename_i h2
      split at e
      · rename_i h3
        obtain ⟨c, hc, hf⟩ := List.any_eq_true.1 h3
        simp only [foundC, Bool.and_eq_true, decide_eq_true_eq] at hf
        exact ⟨cRight_iff.1 (Classical.not_not.1 h1), Classical.not_not.1 h2, ⟨c, hc, hf.1, cHolds_iff.1 hf.2⟩, by rw [e]⟩
      · rw [e] at h; simp at h
theorem end_bad {l : List Cred} {id now : Int} (h : (cEnd l id now).2 ≠ 0) : (cEnd l id now).1 = [] := by
  have e := cEnd_eq l id now
  repeat' split at e
  all_goals rw [e] at h ⊢
  all_goals first | rfl | exact absurd rfl h
theorem EndOk.mem {l : List Cred} {id now : Int} (h : EndOk l id now) {d : Cred} : d ∈ (cEnd l id now).1 ↔ ∃ c ∈ l, endC id now c = some d := by
  rw [h.out, List.mem_filterMap]
theorem EndOk.isRight {l : List Cred} {id now : Int} (h : EndOk l id now) : RightL (cEnd l id now).1 := by
  refine ⟨?_, fun d hd => ?_, ?_⟩
  · rw [h.out]; have := List.length_filterMap_le (endC id now) l; have := h.right.1; omega
  · obtain ⟨c, hc, ht⟩ := h.mem.1 hd
    obtain ⟨g1, g2, g3, g4, g5⟩ := h.right.2.1 c hc
    rcases (endC_some g4).1 ht with ⟨_, _, h3, rfl⟩ | ⟨_, rfl⟩
    · exact ⟨g1, g2, g3, h3, h.nn.2⟩
    · exact ⟨g1, g2, g3, g4, g5⟩
  · rw [h.out, List.pairwise_filterMap]
    refine h.right.2.2.imp_of_mem fun {a a'} ha ha' haa b hb b' hb' => ?_
    have e1 : b.id = a.id := by rcases (endC_some (h.right.2.1 a ha).2.2.2.1).1 hb with ⟨_, _, _, rfl⟩ | ⟨_, rfl⟩ <;> rfl
    have e2 : b'.id = a'.id := by rcases (endC_some (h.right.2.1 a' ha').2.2.2.1).1 hb' with ⟨_, _, _, rfl⟩ | ⟨_, rfl⟩ <;> rfl
    rw [e1, e2]; exact haa
theorem EndOk.holds {l : List Cred} {id now : Int} (h : EndOk l id now) {at_ i : Int} : (∃ d ∈ cHolding (cEnd l id now).1 at_, d.id = i) ↔
    ∃ c ∈ l, c.id = i ∧ c.frm ≤ at_ ∧ at_ < c.to ∧ (c.id = id ∧ c.frm ≤ now ∧ now < c.to → at_ < now) := by
  rw [cHolding_eq h.isRight]
  constructor
  · rintro ⟨d, hd, rfl⟩
    obtain ⟨hd, hh⟩ := List.mem_filter.1 hd
    obtain ⟨b1, b2⟩ := cHolds_iff.1 hh
    obtain ⟨c, hc, ht⟩ := h.mem.1 hd
    rcases (endC_some (h.right.2.1 c hc).2.2.2.1).1 ht with ⟨h1, h2, h3, rfl⟩ | ⟨hn, rfl⟩
    · simp only at b1 b2
      exact ⟨c, hc, rfl, b1, by omega, fun _ => b2⟩
    · exact ⟨d, hc, rfl, b1, b2, fun e => absurd e hn⟩
  · rintro ⟨c, hc, rfl, b1, b2, b3⟩
    have hg := (h.right.2.1 c hc).2.2.2.1
    by_cases hn : c.id = id ∧ c.frm ≤ now ∧ now < c.to
    · have := b3 hn
      exact ⟨⟨c.id, c.key, c.frm, now⟩, List.mem_filter.2 ⟨h.mem.2 ⟨c, hc, (endC_some hg).2 (.inl ⟨hn.1, hn.2, by omega, rfl⟩)⟩, cHolds_iff.2 ⟨b1, this⟩⟩, rfl⟩
    · exact ⟨c, List.mem_filter.2 ⟨h.mem.2 ⟨c, hc, (endC_some hg).2 (.inr ⟨hn, rfl⟩)⟩, cHolds_iff.2 ⟨b1, b2⟩⟩, rfl⟩
theorem lCredEnds_l0_ok (l : List Cred) (id now at_ : Int) (h : ∀ i, i < (cHolding (cFew l) at_).length → ((cHolding (cFew l) at_).getD i default).id ≠ id → cInL (cHolding (cEnd (cFew l) id now).1 at_) ((cHolding (cFew l) at_).getD i default).id = true) :
    ∀ n k, ∃ x, lCredEnds_l0 l id now at_ n k = .ok x
  | 0, k => ⟨_, rfl⟩
  | n + 1, k => by
    rw [lCredEnds_l0]
    have ih := lCredEnds_l0_ok l id now at_ h n (k + 1)
    by_cases hk : k < (cHolding (cFew l) at_).length
    · rw [if_pos (by omega)]
      by_cases h1 : ((cHolding (cFew l) at_).getD k default).id = id
      · rw [if_neg (fun e => e h1)]
        exact ih
      · rw [if_pos h1, h k hk h1, if_neg (by simp)]
        exact ih
    · rw [if_neg (by omega)]
      exact ⟨_, rfl⟩
theorem lCredEnds_l1_ok (l : List Cred) (id now at_ : Int) (j : Nat) (h : ∀ i, i < (cHolding (cEnd (cFew l) id now).1 at_).length → cInL (cHolding (cFew l) at_) ((cHolding (cEnd (cFew l) id now).1 at_).getD i default).id = true) :
    ∀ n k, ∃ x, lCredEnds_l1 l id now at_ j n k = .ok x
  | 0, k => ⟨_, rfl⟩
  | n + 1, k => by
    rw [lCredEnds_l1]
    have ih := lCredEnds_l1_ok l id now at_ j h n (k + 1)
    by_cases hk : k < (cHolding (cEnd (cFew l) id now).1 at_).length
    · rw [if_pos (by omega), h k hk, if_neg (by simp)]
      exact ih
    · rw [if_neg (by omega)]
      exact ⟨_, rfl⟩
theorem lCredEnds_true (l : List Cred) (id now at_ : Int) : lCredEnds l id now at_ = true := by
  unfold lCredEnds
  by_cases he : (cEnd (cFew l) id now).2 = 0
  · have h := end_ok he
    rw [if_neg (by simpa using he)]
    obtain ⟨x, hx⟩ := lCredEnds_l0_ok l id now at_ (fun i hi hne => by
      have hm := getD_mem hi
      generalize (cHolding (cFew l) at_).getD i default = c at hm hne ⊢
      rw [cHolding_eq h.right] at hm
      obtain ⟨hm, hh⟩ := List.mem_filter.1 hm
      have hh := cHolds_iff.1 hh
      exact cInL_iff.2 (h.holds.2 ⟨c, hm, rfl, hh.1, hh.2, fun e => absurd e.1 hne⟩)) ((cHolding (cFew l) at_).length + 1) 0
    rw [hx]
    simp only [outc1]
    obtain ⟨y, hy⟩ := lCredEnds_l1_ok l id now at_ x (fun i hi => by
      have hm := getD_mem hi
      generalize (cHolding (cEnd (cFew l) id now).1 at_).getD i default = c at hm ⊢
      obtain ⟨d, hd, h1, h2, h3, _⟩ := h.holds.1 ⟨c, hm, rfl⟩
      exact cInL_iff.2 ⟨d, by rw [cHolding_eq h.right]; exact List.mem_filter.2 ⟨hd, cHolds_iff.2 ⟨h2, h3⟩⟩, h1⟩) ((cHolding (cEnd (cFew l) id now).1 at_).length + 1) 0
    rw [hy]
    simp only [outc1]
    rw [if_pos cShown_true, if_pos (cRight_iff.2 h.isRight)]
    by_cases hat : at_ < now
    · rw [if_pos hat]
    · rw [if_neg hat]
      cases hc : cInL (cHolding (cEnd (cFew l) id now).1 at_) id
      · rfl
      · obtain ⟨c, hm, h1, h2, h3, h4⟩ := h.holds.1 (cInL_iff.1 hc)
        obtain ⟨d, hd, e1, e2, e3⟩ := h.found
        have := uniq_id h.right hm hd (by omega)
        subst this
        have := h4 ⟨e1, e2, e3⟩
        omega
  · rw [if_pos he, if_pos cShown_true, end_bad he]
    simp
/-! ### two rotations -/
theorem lCredTwice_l0_ok (l : List Cred) (a b : Str) (now ov span at_ : Int) (h : ∀ i, i < (cHolding (cRot (cRot (cFew l) (cCut a) now ov span).1 (cCut b) now ov span).1 at_).length → ((cHolding (cRot (cRot (cFew l) (cCut a) now ov span).1 (cCut b) now ov span).1 at_).getD i default).id ≠ (cRot (cRot (cFew l) (cCut a) now ov span).1 (cCut b) now ov span).2.1 → at_ < now + ov) :
    ∀ n k, ∃ x, lCredTwice_l0 l a b now ov span at_ n k = .ok x
  | 0, k => ⟨_, rfl⟩
  | n + 1, k => by
    rw [lCredTwice_l0]
    have ih := lCredTwice_l0_ok l a b now ov span at_ h n (k + 1)
    by_cases hk : k < (cHolding (cRot (cRot (cFew l) (cCut a) now ov span).1 (cCut b) now ov span).1 at_).length
    · rw [if_pos (by omega)]
      by_cases h1 : ((cHolding (cRot (cRot (cFew l) (cCut a) now ov span).1 (cCut b) now ov span).1 at_).getD k default).id = (cRot (cRot (cFew l) (cCut a) now ov span).1 (cCut b) now ov span).2.1
      · rw [if_neg (fun e => e h1)]
        exact ih
      · have := h k hk h1
        rw [if_pos h1, if_neg (by omega)]
        exact ih
    · rw [if_neg (by omega)]
      exact ⟨_, rfl⟩
theorem idC_append (l : List Cred) (c : Cred) (i : Int) : idC i (l ++ [c]) = c.id + 1 := by simp [idC]
theorem lCredTwice_true (l : List Cred) (a b : Str) (now ov span at_ : Int) : lCredTwice l a b now ov span at_ = true := by
  unfold lCredTwice
  by_cases he : (cRot (cFew l) (cCut a) now ov span).2.2 = 0
  · rw [if_neg (by simpa using he)]
    by_cases hf : (cRot (cRot (cFew l) (cCut a) now ov span).1 (cCut b) now ov span).2.2 = 0
    · rw [if_neg (by simpa using hf)]
      by_cases hat : at_ < now
      · rw [if_pos hat]; exact cShown_true
      · rw [if_neg hat]
        have h := rot_ok he
        have h2 := rot_ok hf
        have hid := h.right.idC
        have hid2 := h2.right.idC
        have hj : idC 1 (cRot (cFew l) (cCut a) now ov span).1 = idC 1 (cFew l) + 1 := by rw [h.out, idC_append]
        obtain ⟨x, hx⟩ := lCredTwice_l0_ok l a b now ov span at_ (fun i hi hne => by
          have hm := getD_mem hi
          generalize (cHolding (cRot (cRot (cFew l) (cCut a) now ov span).1 (cCut b) now ov span).1 at_).getD i default = c at hm hne ⊢
          rcases (h2.holds (by omega)).1 ⟨c, hm, rfl⟩ with ⟨d, _, _, _, _, _, h4⟩ | ⟨h4, _⟩
          · exact h4
          · rw [h2.idv] at hne; exact absurd h4 hne) ((cHolding (cRot (cRot (cFew l) (cCut a) now ov span).1 (cCut b) now ov span).1 at_).length + 1) 0
        rw [hx]
        simp only [outc1]
        have e1 : cInL (cHolding (cRot (cRot (cFew l) (cCut a) now ov span).1 (cCut b) now ov span).1 at_) (cRot (cRot (cFew l) (cCut a) now ov span).1 (cCut b) now ov span).2.1 = decide (at_ < now + span) := cInL_eq (by
          rw [h2.holds (by omega), h2.idv]
          constructor
          · rintro (⟨c, hc, hi, _⟩ | ⟨_, hs⟩)
            · have := hid2.2 c hc; omega
            · exact hs
          · exact fun hs => .inr ⟨rfl, hs⟩)
        have e2 : cInL (cHolding (cRot (cRot (cFew l) (cCut a) now ov span).1 (cCut b) now ov span).1 at_) (cRot (cFew l) (cCut a) now ov span).2.1 = decide (at_ < now + span ∧ at_ < now + ov) := cInL_eq (by
          rw [h2.holds (by omega), h.idv, hj]
          have hs := h.ss
          constructor
          · rintro (⟨c, hc, hi, b1, b2, b3, b4⟩ | ⟨hi, _⟩)
            · rcases h.mem.1 hc with ⟨d, hd, ht⟩ | rfl
              · obtain ⟨_, _, rfl⟩ := trimC_some.1 ht
                have := hid.2 d hd
                simp only at hi; omega
              · exact ⟨b3, b4⟩
            · omega
          · rintro ⟨b1, b2⟩
            exact .inl ⟨_, h.mem.2 (.inr rfl), rfl, by show now < now + span; omega, by show now ≤ at_; omega, b1, b2⟩)
        rw [if_pos cShown_true, h2.idv, hj, h.idv, if_pos rfl, ← hj, ← h2.idv, e1, if_pos (by simp), ← h.idv, e2]
        by_cases h5 : at_ < now + span <;> by_cases h6 : at_ < now + ov <;> simp [h5, h6]
    · rw [if_pos hf]; exact cShown_true
  · rw [if_pos he]; exact cShown_true
end Go.Proofs.YtcmondhpiahchaaGreatDoor.Jd
