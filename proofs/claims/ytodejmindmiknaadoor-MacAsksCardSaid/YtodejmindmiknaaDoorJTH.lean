/- Part of the proofs of this seat: walks and plain facts. No condition. -/
import Derived.Test.YtodejmindmiknaaDoorShelf
import Derived.Test.YtodejmindmiknaaDoorJSM
import Derived.Test.YtodejmindmiknaaDoorJTA
namespace Go.Proofs.YtodejmindmiknaaDoor.Jd
set_option linter.unusedSimpArgs false
open Go.Proofs
open Go.RowKit (Below)
set_option linter.unusedVariables false
/-- What the library's variables hold where a call begins. -/
structure Gl (w : World) : Prop where
  p10 : Lib.TabIs Tryd.prog w "internal/strconv.uint64pow10" .u64 Lib.pow10Tab
  sha : ∃ T f, w.heap[3]? = some (Obj.cells (aI .u32 shaTab).toArray T f)
  rsha : ∃ T f, w.heap[2]? = some (Obj.cells (aI .u32 rTab).toArray T f)
theorem var_ext {w w' : World} (he : Ext w w') {name : String} {cs : Array Value} (h : w.var? Tryd.prog name = some cs) : w'.var? Tryd.prog name = some cs := by
  unfold World.var? at *
  cases hg : Tryd.prog.globalNamed name with
  | none => rw [hg] at h; cases h
  | some b =>
    rw [hg] at h
    simp only [Option.bind_some] at h ⊢
    cases hb : w.heap[b]? with
    | none => rw [hb] at h; cases h
    | some ob =>
      rw [he.block b (Array.getElem?_eq_some_iff.1 hb).1]
      exact h
theorem cell_ext {w w' : World} (he : Ext w w') {k : Nat} (h : ∃ m, w.cell? ⟨k, 0, none⟩ = some (.int .i64 m)) : ∃ m, w'.cell? ⟨k, 0, none⟩ = some (.int .i64 m) := by
  obtain ⟨m, hm⟩ := h
  refine ⟨m, ?_⟩
  have hlt := World.block_lt_of_cell? w _ hm
  simp only [World.cell?] at hm ⊢
  rw [he.block _ hlt]
  exact hm
theorem cell_ext2 {w w' : World} (he : Ext w w') {a : Addr} {v : Value} (h : w.cell? a = some v) : w'.cell? a = some v := by
  have hlt := World.block_lt_of_cell? w _ h
  simp only [World.cell?] at h ⊢
  rw [he.block _ hlt]
  exact h
theorem row_ext {w w' : World} (he : Ext w w') {k : Nat} {cs : Array Value} (h : ∃ T f, w.heap[k]? = some (Obj.cells cs T f)) : ∃ T f, w'.heap[k]? = some (Obj.cells cs T f) := by
  obtain ⟨T, f, h⟩ := h
  exact ⟨T, f, by rw [he.block k (Array.getElem?_eq_some_iff.1 h).1]; exact h⟩
theorem Gl.ext {w w' : World} (h : Gl w) (he : Ext w w') : Gl w' := ⟨var_ext he h.p10, row_ext he h.sha, row_ext he h.rsha⟩
theorem ext_drewN (w : World) (n : Nat) : Ext w (w.drewN n) := ⟨rfl, rfl, rfl, Nat.le_refl _, fun _ _ => rfl⟩
theorem ext_grow (w : World) (os : Array Obj) : Ext w (Sort.grow w os) := ⟨rfl, rfl, rfl, by simp [Sort.grow], fun k hk => by
  simp only [Sort.grow]
  exact Array.getElem?_append_left hk⟩
theorem bs_data (s : Str) : (bs s).data.toList = s := by simp [bs]
theorem Itoa_ok (w : World) {n : Int} (hG : Gl w) (hn : -9223372036854775808 ≤ n ∧ n ≤ 9223372036854775807) : Val Tryd.prog 28 [.int .i64 n] w (.string (bs (Lib.itoa n))) := by
  refine (Tryd.strconv_Itoa n hn.1 hn.2 w hG.p10).mono fun e w' ⟨he, k, os, hw⟩ => ⟨he, ?_⟩
  subst hw
  exact (ext_drewN w k).trans ((ext_grow _ os).mono (by simp))

theorem Join_ok (w : World) {a : Option Addr} {c : Nat} {xs : List Str} {sep : Str} (h_xs : Sl w eS 1 a xs) (hc : xs.length ≤ c) (hn : xs.length ≤ 1000000) (hl : (Lib.join xs sep).length ≤ 1000000) : Val Tryd.prog 29 [.slice a xs.length c, .string (bs sep)] w (.string (bs (Lib.join xs sep))) := by
  by_cases hx : xs = []
  · subst hx
    refine (Tryd.strings_Join_none a c (bs sep) w).mono fun e w' ⟨he, hw⟩ => ⟨he, hw ▸ Below.refl _ _⟩
  · obtain ⟨x0, hx0⟩ : ∃ x, xs[0]? = some x := by cases xs with
      | nil => exact absurd rfl hx
      | cons x r => exact ⟨x, rfl⟩
    obtain ⟨b, off, rfl, _, hc0⟩ := h_xs 0 x0 hx0
    have hb : b < w.heap.size := World.block_lt_of_cell? w _ (hc0 0 _ rfl)
    have hm : (xs.map bs).map (fun x : ByteArray => x.data.toList) = xs := by
      rw [List.map_map]
      conv => rhs; rw [← List.map_id xs]
      exact List.map_congr_left fun x _ => bs_data x
    have := Tryd.strings_Join b off c (xs.map bs) (bs sep) w (fun j x hj => by
      rw [List.getElem?_map] at hj
      cases hy : xs[j]? with
      | none => rw [hy] at hj; cases hj
      | some y =>
        rw [hy] at hj; cases hj
        obtain ⟨b', off', he, _, hcj⟩ := h_xs j y hy
        cases he
        have := hcj 0 _ rfl
        simpa using this) hb (by rw [List.length_map]; omega) (by rw [List.length_map]; exact hc) (by rw [hm, bs_data]; omega)
    rw [List.length_map] at this
    refine this.mono fun e w' ⟨he, hw⟩ => ⟨?_, hw⟩
    rw [he, hm, bs_data]; rfl

end Go.Proofs.YtodejmindmiknaaDoor.Jd
