/- What a function answers, told step by step; joins; callees walked in place; strings; more operations. No condition. -/
import Derived.Test.YtodejmindmiknaaDoorJ10
namespace Go.Proofs.YtodejmindmiknaaDoor.Jd
set_option linter.unusedSimpArgs false
open Go.RowKit (Below)

/-! ### chains -/
def Is {α : Type} (a b : α) : Prop := a = b
theorem Is.refl {α : Type} (a : α) : Is a a := rfl
theorem Is.eq {α : Type} {a b : α} (h : Is a b) : a = b := h
theorem Is.pos {α : Type} {a x y : α} {c : Prop} {i : Decidable c} (h : Is a (@ite α c i x y)) (hc : c) : Is a x := Eq.trans h (if_pos hc)
theorem Is.neg {α : Type} {a x y : α} {c : Prop} {i : Decidable c} (h : Is a (@ite α c i x y)) (hc : ¬ c) : Is a y := Eq.trans h (if_neg hc)
theorem Is.t {α : Type} {a x y : α} {b : Bool} {i : Decidable (b = true)} (h : Is a (@ite α (b = true) i x y)) (hc : b = true) : Is a x := Eq.trans h (if_pos hc)
theorem Is.f {α : Type} {a x y : α} {b : Bool} {i : Decidable (b = true)} (h : Is a (@ite α (b = true) i x y)) (hc : b = false) : Is a y := Eq.trans h (if_neg (by rw [hc]; exact Bool.noConfusion))
theorem Is.to {α : Type} {a b c : α} (h : Is a b) (k : b = c) : Is a c := Eq.trans h k
def outc0 {γ ε : Type} (x : Except ε Unit) (f : ε → γ) (g : γ) : γ := match x with | .error e => f e | .ok _ => g 
def run0 {γ : Type} (_ : Unit) (g : γ) : γ := g 
theorem Is.ok0 {γ ε : Type} {A : γ} {x : Except ε Unit} {f : ε → γ} {g : γ} (h : Is A (outc0 x f g)) (hx : Is x (.ok ())) : Is A (g ) := by cases hx; exact h
theorem Is.er0 {γ ε : Type} {A : γ} {x : Except ε Unit} {f : ε → γ} {g : γ} {e : ε} (h : Is A (outc0 x f g)) (hx : Is x (.error e)) : Is A (f e) := by cases hx; exact h
def Is.xr0 {γ : Type} {A : γ} {x : Unit} {g : γ} (_ : Is A (run0 x g)) : Unit := x
def Is.xo0 {γ ε : Type} {A : γ} {x : Except ε Unit} {f : ε → γ} {g : γ} (_ : Is A (outc0 x f g)) : Except ε Unit := x
theorem Is.rn0 {γ : Type} {A : γ} {x : Unit} {g : γ} (h : Is A (run0 x g)) (hx : Is x ()) : Is A (g ) := by cases hx; exact h
def outc1 {α1 γ ε : Type} (x : Except ε α1) (f : ε → γ) (g : α1 → γ) : γ := match x with | .error e => f e | .ok v => g v
def run1 {α1 γ : Type} (v : α1) (g : α1 → γ) : γ := g v
theorem Is.ok1 {α1 γ ε : Type} {A : γ} {x : Except ε α1} {f : ε → γ} {g : α1 → γ} {u1 : α1} (h : Is A (outc1 x f g)) (hx : Is x (.ok u1)) : Is A (g u1) := by cases hx; exact h
theorem Is.er1 {α1 γ ε : Type} {A : γ} {x : Except ε α1} {f : ε → γ} {g : α1 → γ} {e : ε} (h : Is A (outc1 x f g)) (hx : Is x (.error e)) : Is A (f e) := by cases hx; exact h
def Is.xr1 {α1 γ : Type} {A : γ} {x : α1} {g : α1 → γ} (_ : Is A (run1 x g)) : α1 := x
def Is.xo1 {α1 γ ε : Type} {A : γ} {x : Except ε α1} {f : ε → γ} {g : α1 → γ} (_ : Is A (outc1 x f g)) : Except ε α1 := x
theorem Is.rn1 {α1 γ : Type} {A : γ} {x : α1} {g : α1 → γ} {u1 : α1} (h : Is A (run1 x g)) (hx : Is x u1) : Is A (g u1) := by cases hx; exact h
def outc2 {α1 α2 γ ε : Type} (x : Except ε (α1 × α2)) (f : ε → γ) (g : α1 → α2 → γ) : γ := match x with | .error e => f e | .ok v => g v.1 v.2
def run2 {α1 α2 γ : Type} (v : (α1 × α2)) (g : α1 → α2 → γ) : γ := g v.1 v.2
theorem Is.ok2 {α1 α2 γ ε : Type} {A : γ} {x : Except ε (α1 × α2)} {f : ε → γ} {g : α1 → α2 → γ} {u1 : α1} {u2 : α2} (h : Is A (outc2 x f g)) (hx : Is x (.ok (u1, u2))) : Is A (g u1 u2) := by cases hx; exact h
theorem Is.er2 {α1 α2 γ ε : Type} {A : γ} {x : Except ε (α1 × α2)} {f : ε → γ} {g : α1 → α2 → γ} {e : ε} (h : Is A (outc2 x f g)) (hx : Is x (.error e)) : Is A (f e) := by cases hx; exact h
def Is.xr2 {α1 α2 γ : Type} {A : γ} {x : (α1 × α2)} {g : α1 → α2 → γ} (_ : Is A (run2 x g)) : (α1 × α2) := x
def Is.xo2 {α1 α2 γ ε : Type} {A : γ} {x : Except ε (α1 × α2)} {f : ε → γ} {g : α1 → α2 → γ} (_ : Is A (outc2 x f g)) : Except ε (α1 × α2) := x
theorem Is.rn2 {α1 α2 γ : Type} {A : γ} {x : (α1 × α2)} {g : α1 → α2 → γ} {u1 : α1} {u2 : α2} (h : Is A (run2 x g)) (hx : Is x (u1, u2)) : Is A (g u1 u2) := by cases hx; exact h
def outc3 {α1 α2 α3 γ ε : Type} (x : Except ε (α1 × α2 × α3)) (f : ε → γ) (g : α1 → α2 → α3 → γ) : γ := match x with | .error e => f e | .ok v => g v.1 v.2.1 v.2.2
def run3 {α1 α2 α3 γ : Type} (v : (α1 × α2 × α3)) (g : α1 → α2 → α3 → γ) : γ := g v.1 v.2.1 v.2.2
theorem Is.ok3 {α1 α2 α3 γ ε : Type} {A : γ} {x : Except ε (α1 × α2 × α3)} {f : ε → γ} {g : α1 → α2 → α3 → γ} {u1 : α1} {u2 : α2} {u3 : α3} (h : Is A (outc3 x f g)) (hx : Is x (.ok (u1, u2, u3))) : Is A (g u1 u2 u3) := by cases hx; exact h
theorem Is.er3 {α1 α2 α3 γ ε : Type} {A : γ} {x : Except ε (α1 × α2 × α3)} {f : ε → γ} {g : α1 → α2 → α3 → γ} {e : ε} (h : Is A (outc3 x f g)) (hx : Is x (.error e)) : Is A (f e) := by cases hx; exact h
def Is.xr3 {α1 α2 α3 γ : Type} {A : γ} {x : (α1 × α2 × α3)} {g : α1 → α2 → α3 → γ} (_ : Is A (run3 x g)) : (α1 × α2 × α3) := x
def Is.xo3 {α1 α2 α3 γ ε : Type} {A : γ} {x : Except ε (α1 × α2 × α3)} {f : ε → γ} {g : α1 → α2 → α3 → γ} (_ : Is A (outc3 x f g)) : Except ε (α1 × α2 × α3) := x
theorem Is.rn3 {α1 α2 α3 γ : Type} {A : γ} {x : (α1 × α2 × α3)} {g : α1 → α2 → α3 → γ} {u1 : α1} {u2 : α2} {u3 : α3} (h : Is A (run3 x g)) (hx : Is x (u1, u2, u3)) : Is A (g u1 u2 u3) := by cases hx; exact h
def outc4 {α1 α2 α3 α4 γ ε : Type} (x : Except ε (α1 × α2 × α3 × α4)) (f : ε → γ) (g : α1 → α2 → α3 → α4 → γ) : γ := match x with | .error e => f e | .ok v => g v.1 v.2.1 v.2.2.1 v.2.2.2
def run4 {α1 α2 α3 α4 γ : Type} (v : (α1 × α2 × α3 × α4)) (g : α1 → α2 → α3 → α4 → γ) : γ := g v.1 v.2.1 v.2.2.1 v.2.2.2
theorem Is.ok4 {α1 α2 α3 α4 γ ε : Type} {A : γ} {x : Except ε (α1 × α2 × α3 × α4)} {f : ε → γ} {g : α1 → α2 → α3 → α4 → γ} {u1 : α1} {u2 : α2} {u3 : α3} {u4 : α4} (h : Is A (outc4 x f g)) (hx : Is x (.ok (u1, u2, u3, u4))) : Is A (g u1 u2 u3 u4) := by cases hx; exact h
theorem Is.er4 {α1 α2 α3 α4 γ ε : Type} {A : γ} {x : Except ε (α1 × α2 × α3 × α4)} {f : ε → γ} {g : α1 → α2 → α3 → α4 → γ} {e : ε} (h : Is A (outc4 x f g)) (hx : Is x (.error e)) : Is A (f e) := by cases hx; exact h
def Is.xr4 {α1 α2 α3 α4 γ : Type} {A : γ} {x : (α1 × α2 × α3 × α4)} {g : α1 → α2 → α3 → α4 → γ} (_ : Is A (run4 x g)) : (α1 × α2 × α3 × α4) := x
def Is.xo4 {α1 α2 α3 α4 γ ε : Type} {A : γ} {x : Except ε (α1 × α2 × α3 × α4)} {f : ε → γ} {g : α1 → α2 → α3 → α4 → γ} (_ : Is A (outc4 x f g)) : Except ε (α1 × α2 × α3 × α4) := x
theorem Is.rn4 {α1 α2 α3 α4 γ : Type} {A : γ} {x : (α1 × α2 × α3 × α4)} {g : α1 → α2 → α3 → α4 → γ} {u1 : α1} {u2 : α2} {u3 : α3} {u4 : α4} (h : Is A (run4 x g)) (hx : Is x (u1, u2, u3, u4)) : Is A (g u1 u2 u3 u4) := by cases hx; exact h
def outc5 {α1 α2 α3 α4 α5 γ ε : Type} (x : Except ε (α1 × α2 × α3 × α4 × α5)) (f : ε → γ) (g : α1 → α2 → α3 → α4 → α5 → γ) : γ := match x with | .error e => f e | .ok v => g v.1 v.2.1 v.2.2.1 v.2.2.2.1 v.2.2.2.2
def run5 {α1 α2 α3 α4 α5 γ : Type} (v : (α1 × α2 × α3 × α4 × α5)) (g : α1 → α2 → α3 → α4 → α5 → γ) : γ := g v.1 v.2.1 v.2.2.1 v.2.2.2.1 v.2.2.2.2
theorem Is.ok5 {α1 α2 α3 α4 α5 γ ε : Type} {A : γ} {x : Except ε (α1 × α2 × α3 × α4 × α5)} {f : ε → γ} {g : α1 → α2 → α3 → α4 → α5 → γ} {u1 : α1} {u2 : α2} {u3 : α3} {u4 : α4} {u5 : α5} (h : Is A (outc5 x f g)) (hx : Is x (.ok (u1, u2, u3, u4, u5))) : Is A (g u1 u2 u3 u4 u5) := by cases hx; exact h
theorem Is.er5 {α1 α2 α3 α4 α5 γ ε : Type} {A : γ} {x : Except ε (α1 × α2 × α3 × α4 × α5)} {f : ε → γ} {g : α1 → α2 → α3 → α4 → α5 → γ} {e : ε} (h : Is A (outc5 x f g)) (hx : Is x (.error e)) : Is A (f e) := by cases hx; exact h
def Is.xr5 {α1 α2 α3 α4 α5 γ : Type} {A : γ} {x : (α1 × α2 × α3 × α4 × α5)} {g : α1 → α2 → α3 → α4 → α5 → γ} (_ : Is A (run5 x g)) : (α1 × α2 × α3 × α4 × α5) := x
def Is.xo5 {α1 α2 α3 α4 α5 γ ε : Type} {A : γ} {x : Except ε (α1 × α2 × α3 × α4 × α5)} {f : ε → γ} {g : α1 → α2 → α3 → α4 → α5 → γ} (_ : Is A (outc5 x f g)) : Except ε (α1 × α2 × α3 × α4 × α5) := x
theorem Is.rn5 {α1 α2 α3 α4 α5 γ : Type} {A : γ} {x : (α1 × α2 × α3 × α4 × α5)} {g : α1 → α2 → α3 → α4 → α5 → γ} {u1 : α1} {u2 : α2} {u3 : α3} {u4 : α4} {u5 : α5} (h : Is A (run5 x g)) (hx : Is x (u1, u2, u3, u4, u5)) : Is A (g u1 u2 u3 u4 u5) := by cases hx; exact h
def outc6 {α1 α2 α3 α4 α5 α6 γ ε : Type} (x : Except ε (α1 × α2 × α3 × α4 × α5 × α6)) (f : ε → γ) (g : α1 → α2 → α3 → α4 → α5 → α6 → γ) : γ := match x with | .error e => f e | .ok v => g v.1 v.2.1 v.2.2.1 v.2.2.2.1 v.2.2.2.2.1 v.2.2.2.2.2
def run6 {α1 α2 α3 α4 α5 α6 γ : Type} (v : (α1 × α2 × α3 × α4 × α5 × α6)) (g : α1 → α2 → α3 → α4 → α5 → α6 → γ) : γ := g v.1 v.2.1 v.2.2.1 v.2.2.2.1 v.2.2.2.2.1 v.2.2.2.2.2
theorem Is.ok6 {α1 α2 α3 α4 α5 α6 γ ε : Type} {A : γ} {x : Except ε (α1 × α2 × α3 × α4 × α5 × α6)} {f : ε → γ} {g : α1 → α2 → α3 → α4 → α5 → α6 → γ} {u1 : α1} {u2 : α2} {u3 : α3} {u4 : α4} {u5 : α5} {u6 : α6} (h : Is A (outc6 x f g)) (hx : Is x (.ok (u1, u2, u3, u4, u5, u6))) : Is A (g u1 u2 u3 u4 u5 u6) := by cases hx; exact h
theorem Is.er6 {α1 α2 α3 α4 α5 α6 γ ε : Type} {A : γ} {x : Except ε (α1 × α2 × α3 × α4 × α5 × α6)} {f : ε → γ} {g : α1 → α2 → α3 → α4 → α5 → α6 → γ} {e : ε} (h : Is A (outc6 x f g)) (hx : Is x (.error e)) : Is A (f e) := by cases hx; exact h
def Is.xr6 {α1 α2 α3 α4 α5 α6 γ : Type} {A : γ} {x : (α1 × α2 × α3 × α4 × α5 × α6)} {g : α1 → α2 → α3 → α4 → α5 → α6 → γ} (_ : Is A (run6 x g)) : (α1 × α2 × α3 × α4 × α5 × α6) := x
def Is.xo6 {α1 α2 α3 α4 α5 α6 γ ε : Type} {A : γ} {x : Except ε (α1 × α2 × α3 × α4 × α5 × α6)} {f : ε → γ} {g : α1 → α2 → α3 → α4 → α5 → α6 → γ} (_ : Is A (outc6 x f g)) : Except ε (α1 × α2 × α3 × α4 × α5 × α6) := x
theorem Is.rn6 {α1 α2 α3 α4 α5 α6 γ : Type} {A : γ} {x : (α1 × α2 × α3 × α4 × α5 × α6)} {g : α1 → α2 → α3 → α4 → α5 → α6 → γ} {u1 : α1} {u2 : α2} {u3 : α3} {u4 : α4} {u5 : α5} {u6 : α6} (h : Is A (run6 x g)) (hx : Is x (u1, u2, u3, u4, u5, u6)) : Is A (g u1 u2 u3 u4 u5 u6) := by cases hx; exact h
def outc7 {α1 α2 α3 α4 α5 α6 α7 γ ε : Type} (x : Except ε (α1 × α2 × α3 × α4 × α5 × α6 × α7)) (f : ε → γ) (g : α1 → α2 → α3 → α4 → α5 → α6 → α7 → γ) : γ := match x with | .error e => f e | .ok v => g v.1 v.2.1 v.2.2.1 v.2.2.2.1 v.2.2.2.2.1 v.2.2.2.2.2.1 v.2.2.2.2.2.2
def run7 {α1 α2 α3 α4 α5 α6 α7 γ : Type} (v : (α1 × α2 × α3 × α4 × α5 × α6 × α7)) (g : α1 → α2 → α3 → α4 → α5 → α6 → α7 → γ) : γ := g v.1 v.2.1 v.2.2.1 v.2.2.2.1 v.2.2.2.2.1 v.2.2.2.2.2.1 v.2.2.2.2.2.2
theorem Is.ok7 {α1 α2 α3 α4 α5 α6 α7 γ ε : Type} {A : γ} {x : Except ε (α1 × α2 × α3 × α4 × α5 × α6 × α7)} {f : ε → γ} {g : α1 → α2 → α3 → α4 → α5 → α6 → α7 → γ} {u1 : α1} {u2 : α2} {u3 : α3} {u4 : α4} {u5 : α5} {u6 : α6} {u7 : α7} (h : Is A (outc7 x f g)) (hx : Is x (.ok (u1, u2, u3, u4, u5, u6, u7))) : Is A (g u1 u2 u3 u4 u5 u6 u7) := by cases hx; exact h
theorem Is.er7 {α1 α2 α3 α4 α5 α6 α7 γ ε : Type} {A : γ} {x : Except ε (α1 × α2 × α3 × α4 × α5 × α6 × α7)} {f : ε → γ} {g : α1 → α2 → α3 → α4 → α5 → α6 → α7 → γ} {e : ε} (h : Is A (outc7 x f g)) (hx : Is x (.error e)) : Is A (f e) := by cases hx; exact h
def Is.xr7 {α1 α2 α3 α4 α5 α6 α7 γ : Type} {A : γ} {x : (α1 × α2 × α3 × α4 × α5 × α6 × α7)} {g : α1 → α2 → α3 → α4 → α5 → α6 → α7 → γ} (_ : Is A (run7 x g)) : (α1 × α2 × α3 × α4 × α5 × α6 × α7) := x
def Is.xo7 {α1 α2 α3 α4 α5 α6 α7 γ ε : Type} {A : γ} {x : Except ε (α1 × α2 × α3 × α4 × α5 × α6 × α7)} {f : ε → γ} {g : α1 → α2 → α3 → α4 → α5 → α6 → α7 → γ} (_ : Is A (outc7 x f g)) : Except ε (α1 × α2 × α3 × α4 × α5 × α6 × α7) := x
theorem Is.rn7 {α1 α2 α3 α4 α5 α6 α7 γ : Type} {A : γ} {x : (α1 × α2 × α3 × α4 × α5 × α6 × α7)} {g : α1 → α2 → α3 → α4 → α5 → α6 → α7 → γ} {u1 : α1} {u2 : α2} {u3 : α3} {u4 : α4} {u5 : α5} {u6 : α6} {u7 : α7} (h : Is A (run7 x g)) (hx : Is x (u1, u2, u3, u4, u5, u6, u7)) : Is A (g u1 u2 u3 u4 u5 u6 u7) := by cases hx; exact h
def outc8 {α1 α2 α3 α4 α5 α6 α7 α8 γ ε : Type} (x : Except ε (α1 × α2 × α3 × α4 × α5 × α6 × α7 × α8)) (f : ε → γ) (g : α1 → α2 → α3 → α4 → α5 → α6 → α7 → α8 → γ) : γ := match x with | .error e => f e | .ok v => g v.1 v.2.1 v.2.2.1 v.2.2.2.1 v.2.2.2.2.1 v.2.2.2.2.2.1 v.2.2.2.2.2.2.1 v.2.2.2.2.2.2.2
def run8 {α1 α2 α3 α4 α5 α6 α7 α8 γ : Type} (v : (α1 × α2 × α3 × α4 × α5 × α6 × α7 × α8)) (g : α1 → α2 → α3 → α4 → α5 → α6 → α7 → α8 → γ) : γ := g v.1 v.2.1 v.2.2.1 v.2.2.2.1 v.2.2.2.2.1 v.2.2.2.2.2.1 v.2.2.2.2.2.2.1 v.2.2.2.2.2.2.2
theorem Is.ok8 {α1 α2 α3 α4 α5 α6 α7 α8 γ ε : Type} {A : γ} {x : Except ε (α1 × α2 × α3 × α4 × α5 × α6 × α7 × α8)} {f : ε → γ} {g : α1 → α2 → α3 → α4 → α5 → α6 → α7 → α8 → γ} {u1 : α1} {u2 : α2} {u3 : α3} {u4 : α4} {u5 : α5} {u6 : α6} {u7 : α7} {u8 : α8} (h : Is A (outc8 x f g)) (hx : Is x (.ok (u1, u2, u3, u4, u5, u6, u7, u8))) : Is A (g u1 u2 u3 u4 u5 u6 u7 u8) := by cases hx; exact h
theorem Is.er8 {α1 α2 α3 α4 α5 α6 α7 α8 γ ε : Type} {A : γ} {x : Except ε (α1 × α2 × α3 × α4 × α5 × α6 × α7 × α8)} {f : ε → γ} {g : α1 → α2 → α3 → α4 → α5 → α6 → α7 → α8 → γ} {e : ε} (h : Is A (outc8 x f g)) (hx : Is x (.error e)) : Is A (f e) := by cases hx; exact h
def Is.xr8 {α1 α2 α3 α4 α5 α6 α7 α8 γ : Type} {A : γ} {x : (α1 × α2 × α3 × α4 × α5 × α6 × α7 × α8)} {g : α1 → α2 → α3 → α4 → α5 → α6 → α7 → α8 → γ} (_ : Is A (run8 x g)) : (α1 × α2 × α3 × α4 × α5 × α6 × α7 × α8) := x
def Is.xo8 {α1 α2 α3 α4 α5 α6 α7 α8 γ ε : Type} {A : γ} {x : Except ε (α1 × α2 × α3 × α4 × α5 × α6 × α7 × α8)} {f : ε → γ} {g : α1 → α2 → α3 → α4 → α5 → α6 → α7 → α8 → γ} (_ : Is A (outc8 x f g)) : Except ε (α1 × α2 × α3 × α4 × α5 × α6 × α7 × α8) := x
theorem Is.rn8 {α1 α2 α3 α4 α5 α6 α7 α8 γ : Type} {A : γ} {x : (α1 × α2 × α3 × α4 × α5 × α6 × α7 × α8)} {g : α1 → α2 → α3 → α4 → α5 → α6 → α7 → α8 → γ} {u1 : α1} {u2 : α2} {u3 : α3} {u4 : α4} {u5 : α5} {u6 : α6} {u7 : α7} {u8 : α8} (h : Is A (run8 x g)) (hx : Is x (u1, u2, u3, u4, u5, u6, u7, u8)) : Is A (g u1 u2 u3 u4 u5 u6 u7 u8) := by cases hx; exact h
def outc9 {α1 α2 α3 α4 α5 α6 α7 α8 α9 γ ε : Type} (x : Except ε (α1 × α2 × α3 × α4 × α5 × α6 × α7 × α8 × α9)) (f : ε → γ) (g : α1 → α2 → α3 → α4 → α5 → α6 → α7 → α8 → α9 → γ) : γ := match x with | .error e => f e | .ok v => g v.1 v.2.1 v.2.2.1 v.2.2.2.1 v.2.2.2.2.1 v.2.2.2.2.2.1 v.2.2.2.2.2.2.1 v.2.2.2.2.2.2.2.1 v.2.2.2.2.2.2.2.2
def run9 {α1 α2 α3 α4 α5 α6 α7 α8 α9 γ : Type} (v : (α1 × α2 × α3 × α4 × α5 × α6 × α7 × α8 × α9)) (g : α1 → α2 → α3 → α4 → α5 → α6 → α7 → α8 → α9 → γ) : γ := g v.1 v.2.1 v.2.2.1 v.2.2.2.1 v.2.2.2.2.1 v.2.2.2.2.2.1 v.2.2.2.2.2.2.1 v.2.2.2.2.2.2.2.1 v.2.2.2.2.2.2.2.2
theorem Is.ok9 {α1 α2 α3 α4 α5 α6 α7 α8 α9 γ ε : Type} {A : γ} {x : Except ε (α1 × α2 × α3 × α4 × α5 × α6 × α7 × α8 × α9)} {f : ε → γ} {g : α1 → α2 → α3 → α4 → α5 → α6 → α7 → α8 → α9 → γ} {u1 : α1} {u2 : α2} {u3 : α3} {u4 : α4} {u5 : α5} {u6 : α6} {u7 : α7} {u8 : α8} {u9 : α9} (h : Is A (outc9 x f g)) (hx : Is x (.ok (u1, u2, u3, u4, u5, u6, u7, u8, u9))) : Is A (g u1 u2 u3 u4 u5 u6 u7 u8 u9) := by cases hx; exact h
theorem Is.er9 {α1 α2 α3 α4 α5 α6 α7 α8 α9 γ ε : Type} {A : γ} {x : Except ε (α1 × α2 × α3 × α4 × α5 × α6 × α7 × α8 × α9)} {f : ε → γ} {g : α1 → α2 → α3 → α4 → α5 → α6 → α7 → α8 → α9 → γ} {e : ε} (h : Is A (outc9 x f g)) (hx : Is x (.error e)) : Is A (f e) := by cases hx; exact h
def Is.xr9 {α1 α2 α3 α4 α5 α6 α7 α8 α9 γ : Type} {A : γ} {x : (α1 × α2 × α3 × α4 × α5 × α6 × α7 × α8 × α9)} {g : α1 → α2 → α3 → α4 → α5 → α6 → α7 → α8 → α9 → γ} (_ : Is A (run9 x g)) : (α1 × α2 × α3 × α4 × α5 × α6 × α7 × α8 × α9) := x
def Is.xo9 {α1 α2 α3 α4 α5 α6 α7 α8 α9 γ ε : Type} {A : γ} {x : Except ε (α1 × α2 × α3 × α4 × α5 × α6 × α7 × α8 × α9)} {f : ε → γ} {g : α1 → α2 → α3 → α4 → α5 → α6 → α7 → α8 → α9 → γ} (_ : Is A (outc9 x f g)) : Except ε (α1 × α2 × α3 × α4 × α5 × α6 × α7 × α8 × α9) := x
theorem Is.rn9 {α1 α2 α3 α4 α5 α6 α7 α8 α9 γ : Type} {A : γ} {x : (α1 × α2 × α3 × α4 × α5 × α6 × α7 × α8 × α9)} {g : α1 → α2 → α3 → α4 → α5 → α6 → α7 → α8 → α9 → γ} {u1 : α1} {u2 : α2} {u3 : α3} {u4 : α4} {u5 : α5} {u6 : α6} {u7 : α7} {u8 : α8} {u9 : α9} (h : Is A (run9 x g)) (hx : Is x (u1, u2, u3, u4, u5, u6, u7, u8, u9)) : Is A (g u1 u2 u3 u4 u5 u6 u7 u8 u9) := by cases hx; exact h
def outc10 {α1 α2 α3 α4 α5 α6 α7 α8 α9 α10 γ ε : Type} (x : Except ε (α1 × α2 × α3 × α4 × α5 × α6 × α7 × α8 × α9 × α10)) (f : ε → γ) (g : α1 → α2 → α3 → α4 → α5 → α6 → α7 → α8 → α9 → α10 → γ) : γ := match x with | .error e => f e | .ok v => g v.1 v.2.1 v.2.2.1 v.2.2.2.1 v.2.2.2.2.1 v.2.2.2.2.2.1 v.2.2.2.2.2.2.1 v.2.2.2.2.2.2.2.1 v.2.2.2.2.2.2.2.2.1 v.2.2.2.2.2.2.2.2.2
def run10 {α1 α2 α3 α4 α5 α6 α7 α8 α9 α10 γ : Type} (v : (α1 × α2 × α3 × α4 × α5 × α6 × α7 × α8 × α9 × α10)) (g : α1 → α2 → α3 → α4 → α5 → α6 → α7 → α8 → α9 → α10 → γ) : γ := g v.1 v.2.1 v.2.2.1 v.2.2.2.1 v.2.2.2.2.1 v.2.2.2.2.2.1 v.2.2.2.2.2.2.1 v.2.2.2.2.2.2.2.1 v.2.2.2.2.2.2.2.2.1 v.2.2.2.2.2.2.2.2.2
theorem Is.ok10 {α1 α2 α3 α4 α5 α6 α7 α8 α9 α10 γ ε : Type} {A : γ} {x : Except ε (α1 × α2 × α3 × α4 × α5 × α6 × α7 × α8 × α9 × α10)} {f : ε → γ} {g : α1 → α2 → α3 → α4 → α5 → α6 → α7 → α8 → α9 → α10 → γ} {u1 : α1} {u2 : α2} {u3 : α3} {u4 : α4} {u5 : α5} {u6 : α6} {u7 : α7} {u8 : α8} {u9 : α9} {u10 : α10} (h : Is A (outc10 x f g)) (hx : Is x (.ok (u1, u2, u3, u4, u5, u6, u7, u8, u9, u10))) : Is A (g u1 u2 u3 u4 u5 u6 u7 u8 u9 u10) := by cases hx; exact h
theorem Is.er10 {α1 α2 α3 α4 α5 α6 α7 α8 α9 α10 γ ε : Type} {A : γ} {x : Except ε (α1 × α2 × α3 × α4 × α5 × α6 × α7 × α8 × α9 × α10)} {f : ε → γ} {g : α1 → α2 → α3 → α4 → α5 → α6 → α7 → α8 → α9 → α10 → γ} {e : ε} (h : Is A (outc10 x f g)) (hx : Is x (.error e)) : Is A (f e) := by cases hx; exact h
def Is.xr10 {α1 α2 α3 α4 α5 α6 α7 α8 α9 α10 γ : Type} {A : γ} {x : (α1 × α2 × α3 × α4 × α5 × α6 × α7 × α8 × α9 × α10)} {g : α1 → α2 → α3 → α4 → α5 → α6 → α7 → α8 → α9 → α10 → γ} (_ : Is A (run10 x g)) : (α1 × α2 × α3 × α4 × α5 × α6 × α7 × α8 × α9 × α10) := x
def Is.xo10 {α1 α2 α3 α4 α5 α6 α7 α8 α9 α10 γ ε : Type} {A : γ} {x : Except ε (α1 × α2 × α3 × α4 × α5 × α6 × α7 × α8 × α9 × α10)} {f : ε → γ} {g : α1 → α2 → α3 → α4 → α5 → α6 → α7 → α8 → α9 → α10 → γ} (_ : Is A (outc10 x f g)) : Except ε (α1 × α2 × α3 × α4 × α5 × α6 × α7 × α8 × α9 × α10) := x
theorem Is.rn10 {α1 α2 α3 α4 α5 α6 α7 α8 α9 α10 γ : Type} {A : γ} {x : (α1 × α2 × α3 × α4 × α5 × α6 × α7 × α8 × α9 × α10)} {g : α1 → α2 → α3 → α4 → α5 → α6 → α7 → α8 → α9 → α10 → γ} {u1 : α1} {u2 : α2} {u3 : α3} {u4 : α4} {u5 : α5} {u6 : α6} {u7 : α7} {u8 : α8} {u9 : α9} {u10 : α10} (h : Is A (run10 x g)) (hx : Is x (u1, u2, u3, u4, u5, u6, u7, u8, u9, u10)) : Is A (g u1 u2 u3 u4 u5 u6 u7 u8 u9 u10) := by cases hx; exact h
def outc11 {α1 α2 α3 α4 α5 α6 α7 α8 α9 α10 α11 γ ε : Type} (x : Except ε (α1 × α2 × α3 × α4 × α5 × α6 × α7 × α8 × α9 × α10 × α11)) (f : ε → γ) (g : α1 → α2 → α3 → α4 → α5 → α6 → α7 → α8 → α9 → α10 → α11 → γ) : γ := match x with | .error e => f e | .ok v => g v.1 v.2.1 v.2.2.1 v.2.2.2.1 v.2.2.2.2.1 v.2.2.2.2.2.1 v.2.2.2.2.2.2.1 v.2.2.2.2.2.2.2.1 v.2.2.2.2.2.2.2.2.1 v.2.2.2.2.2.2.2.2.2.1 v.2.2.2.2.2.2.2.2.2.2
def run11 {α1 α2 α3 α4 α5 α6 α7 α8 α9 α10 α11 γ : Type} (v : (α1 × α2 × α3 × α4 × α5 × α6 × α7 × α8 × α9 × α10 × α11)) (g : α1 → α2 → α3 → α4 → α5 → α6 → α7 → α8 → α9 → α10 → α11 → γ) : γ := g v.1 v.2.1 v.2.2.1 v.2.2.2.1 v.2.2.2.2.1 v.2.2.2.2.2.1 v.2.2.2.2.2.2.1 v.2.2.2.2.2.2.2.1 v.2.2.2.2.2.2.2.2.1 v.2.2.2.2.2.2.2.2.2.1 v.2.2.2.2.2.2.2.2.2.2
theorem Is.ok11 {α1 α2 α3 α4 α5 α6 α7 α8 α9 α10 α11 γ ε : Type} {A : γ} {x : Except ε (α1 × α2 × α3 × α4 × α5 × α6 × α7 × α8 × α9 × α10 × α11)} {f : ε → γ} {g : α1 → α2 → α3 → α4 → α5 → α6 → α7 → α8 → α9 → α10 → α11 → γ} {u1 : α1} {u2 : α2} {u3 : α3} {u4 : α4} {u5 : α5} {u6 : α6} {u7 : α7} {u8 : α8} {u9 : α9} {u10 : α10} {u11 : α11} (h : Is A (outc11 x f g)) (hx : Is x (.ok (u1, u2, u3, u4, u5, u6, u7, u8, u9, u10, u11))) : Is A (g u1 u2 u3 u4 u5 u6 u7 u8 u9 u10 u11) := by cases hx; exact h
theorem Is.er11 {α1 α2 α3 α4 α5 α6 α7 α8 α9 α10 α11 γ ε : Type} {A : γ} {x : Except ε (α1 × α2 × α3 × α4 × α5 × α6 × α7 × α8 × α9 × α10 × α11)} {f : ε → γ} {g : α1 → α2 → α3 → α4 → α5 → α6 → α7 → α8 → α9 → α10 → α11 → γ} {e : ε} (h : Is A (outc11 x f g)) (hx : Is x (.error e)) : Is A (f e) := by cases hx; exact h
def Is.xr11 {α1 α2 α3 α4 α5 α6 α7 α8 α9 α10 α11 γ : Type} {A : γ} {x : (α1 × α2 × α3 × α4 × α5 × α6 × α7 × α8 × α9 × α10 × α11)} {g : α1 → α2 → α3 → α4 → α5 → α6 → α7 → α8 → α9 → α10 → α11 → γ} (_ : Is A (run11 x g)) : (α1 × α2 × α3 × α4 × α5 × α6 × α7 × α8 × α9 × α10 × α11) := x
def Is.xo11 {α1 α2 α3 α4 α5 α6 α7 α8 α9 α10 α11 γ ε : Type} {A : γ} {x : Except ε (α1 × α2 × α3 × α4 × α5 × α6 × α7 × α8 × α9 × α10 × α11)} {f : ε → γ} {g : α1 → α2 → α3 → α4 → α5 → α6 → α7 → α8 → α9 → α10 → α11 → γ} (_ : Is A (outc11 x f g)) : Except ε (α1 × α2 × α3 × α4 × α5 × α6 × α7 × α8 × α9 × α10 × α11) := x
theorem Is.rn11 {α1 α2 α3 α4 α5 α6 α7 α8 α9 α10 α11 γ : Type} {A : γ} {x : (α1 × α2 × α3 × α4 × α5 × α6 × α7 × α8 × α9 × α10 × α11)} {g : α1 → α2 → α3 → α4 → α5 → α6 → α7 → α8 → α9 → α10 → α11 → γ} {u1 : α1} {u2 : α2} {u3 : α3} {u4 : α4} {u5 : α5} {u6 : α6} {u7 : α7} {u8 : α8} {u9 : α9} {u10 : α10} {u11 : α11} (h : Is A (run11 x g)) (hx : Is x (u1, u2, u3, u4, u5, u6, u7, u8, u9, u10, u11)) : Is A (g u1 u2 u3 u4 u5 u6 u7 u8 u9 u10 u11) := by cases hx; exact h
def outc12 {α1 α2 α3 α4 α5 α6 α7 α8 α9 α10 α11 α12 γ ε : Type} (x : Except ε (α1 × α2 × α3 × α4 × α5 × α6 × α7 × α8 × α9 × α10 × α11 × α12)) (f : ε → γ) (g : α1 → α2 → α3 → α4 → α5 → α6 → α7 → α8 → α9 → α10 → α11 → α12 → γ) : γ := match x with | .error e => f e | .ok v => g v.1 v.2.1 v.2.2.1 v.2.2.2.1 v.2.2.2.2.1 v.2.2.2.2.2.1 v.2.2.2.2.2.2.1 v.2.2.2.2.2.2.2.1 v.2.2.2.2.2.2.2.2.1 v.2.2.2.2.2.2.2.2.2.1 v.2.2.2.2.2.2.2.2.2.2.1 v.2.2.2.2.2.2.2.2.2.2.2
def run12 {α1 α2 α3 α4 α5 α6 α7 α8 α9 α10 α11 α12 γ : Type} (v : (α1 × α2 × α3 × α4 × α5 × α6 × α7 × α8 × α9 × α10 × α11 × α12)) (g : α1 → α2 → α3 → α4 → α5 → α6 → α7 → α8 → α9 → α10 → α11 → α12 → γ) : γ := g v.1 v.2.1 v.2.2.1 v.2.2.2.1 v.2.2.2.2.1 v.2.2.2.2.2.1 v.2.2.2.2.2.2.1 v.2.2.2.2.2.2.2.1 v.2.2.2.2.2.2.2.2.1 v.2.2.2.2.2.2.2.2.2.1 v.2.2.2.2.2.2.2.2.2.2.1 v.2.2.2.2.2.2.2.2.2.2.2
theorem Is.ok12 {α1 α2 α3 α4 α5 α6 α7 α8 α9 α10 α11 α12 γ ε : Type} {A : γ} {x : Except ε (α1 × α2 × α3 × α4 × α5 × α6 × α7 × α8 × α9 × α10 × α11 × α12)} {f : ε → γ} {g : α1 → α2 → α3 → α4 → α5 → α6 → α7 → α8 → α9 → α10 → α11 → α12 → γ} {u1 : α1} {u2 : α2} {u3 : α3} {u4 : α4} {u5 : α5} {u6 : α6} {u7 : α7} {u8 : α8} {u9 : α9} {u10 : α10} {u11 : α11} {u12 : α12} (h : Is A (outc12 x f g)) (hx : Is x (.ok (u1, u2, u3, u4, u5, u6, u7, u8, u9, u10, u11, u12))) : Is A (g u1 u2 u3 u4 u5 u6 u7 u8 u9 u10 u11 u12) := by cases hx; exact h
theorem Is.er12 {α1 α2 α3 α4 α5 α6 α7 α8 α9 α10 α11 α12 γ ε : Type} {A : γ} {x : Except ε (α1 × α2 × α3 × α4 × α5 × α6 × α7 × α8 × α9 × α10 × α11 × α12)} {f : ε → γ} {g : α1 → α2 → α3 → α4 → α5 → α6 → α7 → α8 → α9 → α10 → α11 → α12 → γ} {e : ε} (h : Is A (outc12 x f g)) (hx : Is x (.error e)) : Is A (f e) := by cases hx; exact h
def Is.xr12 {α1 α2 α3 α4 α5 α6 α7 α8 α9 α10 α11 α12 γ : Type} {A : γ} {x : (α1 × α2 × α3 × α4 × α5 × α6 × α7 × α8 × α9 × α10 × α11 × α12)} {g : α1 → α2 → α3 → α4 → α5 → α6 → α7 → α8 → α9 → α10 → α11 → α12 → γ} (_ : Is A (run12 x g)) : (α1 × α2 × α3 × α4 × α5 × α6 × α7 × α8 × α9 × α10 × α11 × α12) := x
def Is.xo12 {α1 α2 α3 α4 α5 α6 α7 α8 α9 α10 α11 α12 γ ε : Type} {A : γ} {x : Except ε (α1 × α2 × α3 × α4 × α5 × α6 × α7 × α8 × α9 × α10 × α11 × α12)} {f : ε → γ} {g : α1 → α2 → α3 → α4 → α5 → α6 → α7 → α8 → α9 → α10 → α11 → α12 → γ} (_ : Is A (outc12 x f g)) : Except ε (α1 × α2 × α3 × α4 × α5 × α6 × α7 × α8 × α9 × α10 × α11 × α12) := x
theorem Is.rn12 {α1 α2 α3 α4 α5 α6 α7 α8 α9 α10 α11 α12 γ : Type} {A : γ} {x : (α1 × α2 × α3 × α4 × α5 × α6 × α7 × α8 × α9 × α10 × α11 × α12)} {g : α1 → α2 → α3 → α4 → α5 → α6 → α7 → α8 → α9 → α10 → α11 → α12 → γ} {u1 : α1} {u2 : α2} {u3 : α3} {u4 : α4} {u5 : α5} {u6 : α6} {u7 : α7} {u8 : α8} {u9 : α9} {u10 : α10} {u11 : α11} {u12 : α12} (h : Is A (run12 x g)) (hx : Is x (u1, u2, u3, u4, u5, u6, u7, u8, u9, u10, u11, u12)) : Is A (g u1 u2 u3 u4 u5 u6 u7 u8 u9 u10 u11 u12) := by cases hx; exact h

/-! ### joins -/
set_option linter.unusedVariables false
section
variable {P : Program} {rd : Option Nat} {b0 : World} {Mk : List Nat} {N : Nat} {D : List Deferred} {ops : Array Oper} {L V : Heap} {E : Env} {T : Act → World → Prop} {Q : Exit → Act → World → Prop}
theorem J_thenI {c : Code} {I : Act → World → Prop} (h : J P rd b0 Mk N D L E c (kInv I Q)) (k : ∀ a w, I a w → Q .normal a w) : J P rd b0 Mk N D L E c Q :=
  fun a w ha hw => wpIn_mono (h a w ha hw) fun e a w hq => by cases e <;> first | exact k _ _ hq | exact hq
def Joined0 (b0 : World) (Mk : List Nat) (N : Nat) (D : List Deferred) (Ls : Heap) (Es : Env) (I : Prop) : Act → World → Prop := fun a w => I ∧ Holds N D (Es) a ∧ SH b0 Mk (Ls) w
theorem J_join0 {c : Code} (Ls : Heap) (Es : Env) (I : Prop) (h : J P rd b0 Mk N D L E c (kInv (Joined0 b0 Mk N D Ls Es I) Q)) (k : I → JX b0 Mk N D (Ls) (Es) Q .normal) : J P rd b0 Mk N D L E c Q :=
  J_thenI h fun a w ⟨hI, ha, hw⟩ => k hI a w ha hw
theorem JX_join0 {Ls : Heap} {Es : Env} {I : Prop} (hI : I) (hE : SubE E (Es)) (hL : List.Perm L (Ls)) : JX b0 Mk N D L E (kInv (Joined0 b0 Mk N D Ls Es I) Q) .normal :=
  fun _ _ ha hw => ⟨hI, ha.sub hE, hw.perm hL⟩
def Joined1 {σ1 : Type} (b0 : World) (Mk : List Nat) (N : Nat) (D : List Deferred) (Ls : σ1 → Heap) (Es : σ1 → Env) (I : σ1 → Prop) : Act → World → Prop := fun a w => ∃ s1 : σ1, I s1 ∧ Holds N D (Es s1) a ∧ SH b0 Mk (Ls s1) w
theorem J_join1 {σ1 : Type} {c : Code} (Ls : σ1 → Heap) (Es : σ1 → Env) (I : σ1 → Prop) (h : J P rd b0 Mk N D L E c (kInv (Joined1 b0 Mk N D Ls Es I) Q)) (k : ∀ (s1 : σ1), I s1 → JX b0 Mk N D (Ls s1) (Es s1) Q .normal) : J P rd b0 Mk N D L E c Q :=
  J_thenI h fun a w ⟨s1, hI, ha, hw⟩ => k s1 hI a w ha hw
theorem JX_join1 {σ1 : Type} {Ls : σ1 → Heap} {Es : σ1 → Env} {I : σ1 → Prop} (s1 : σ1) (hI : I s1) (hE : SubE E (Es s1)) (hL : List.Perm L (Ls s1)) : JX b0 Mk N D L E (kInv (Joined1 b0 Mk N D Ls Es I) Q) .normal :=
  fun _ _ ha hw => ⟨s1, hI, ha.sub hE, hw.perm hL⟩
def Joined2 {σ1 σ2 : Type} (b0 : World) (Mk : List Nat) (N : Nat) (D : List Deferred) (Ls : σ1 → σ2 → Heap) (Es : σ1 → σ2 → Env) (I : σ1 → σ2 → Prop) : Act → World → Prop := fun a w => ∃ s1 : σ1, ∃ s2 : σ2, I s1 s2 ∧ Holds N D (Es s1 s2) a ∧ SH b0 Mk (Ls s1 s2) w
theorem J_join2 {σ1 σ2 : Type} {c : Code} (Ls : σ1 → σ2 → Heap) (Es : σ1 → σ2 → Env) (I : σ1 → σ2 → Prop) (h : J P rd b0 Mk N D L E c (kInv (Joined2 b0 Mk N D Ls Es I) Q)) (k : ∀ (s1 : σ1) (s2 : σ2), I s1 s2 → JX b0 Mk N D (Ls s1 s2) (Es s1 s2) Q .normal) : J P rd b0 Mk N D L E c Q :=
  J_thenI h fun a w ⟨s1, s2, hI, ha, hw⟩ => k s1 s2 hI a w ha hw
theorem JX_join2 {σ1 σ2 : Type} {Ls : σ1 → σ2 → Heap} {Es : σ1 → σ2 → Env} {I : σ1 → σ2 → Prop} (s1 : σ1) (s2 : σ2) (hI : I s1 s2) (hE : SubE E (Es s1 s2)) (hL : List.Perm L (Ls s1 s2)) : JX b0 Mk N D L E (kInv (Joined2 b0 Mk N D Ls Es I) Q) .normal :=
  fun _ _ ha hw => ⟨s1, s2, hI, ha.sub hE, hw.perm hL⟩
def Joined3 {σ1 σ2 σ3 : Type} (b0 : World) (Mk : List Nat) (N : Nat) (D : List Deferred) (Ls : σ1 → σ2 → σ3 → Heap) (Es : σ1 → σ2 → σ3 → Env) (I : σ1 → σ2 → σ3 → Prop) : Act → World → Prop := fun a w => ∃ s1 : σ1, ∃ s2 : σ2, ∃ s3 : σ3, I s1 s2 s3 ∧ Holds N D (Es s1 s2 s3) a ∧ SH b0 Mk (Ls s1 s2 s3) w
theorem J_join3 {σ1 σ2 σ3 : Type} {c : Code} (Ls : σ1 → σ2 → σ3 → Heap) (Es : σ1 → σ2 → σ3 → Env) (I : σ1 → σ2 → σ3 → Prop) (h : J P rd b0 Mk N D L E c (kInv (Joined3 b0 Mk N D Ls Es I) Q)) (k : ∀ (s1 : σ1) (s2 : σ2) (s3 : σ3), I s1 s2 s3 → JX b0 Mk N D (Ls s1 s2 s3) (Es s1 s2 s3) Q .normal) : J P rd b0 Mk N D L E c Q :=
  J_thenI h fun a w ⟨s1, s2, s3, hI, ha, hw⟩ => k s1 s2 s3 hI a w ha hw
theorem JX_join3 {σ1 σ2 σ3 : Type} {Ls : σ1 → σ2 → σ3 → Heap} {Es : σ1 → σ2 → σ3 → Env} {I : σ1 → σ2 → σ3 → Prop} (s1 : σ1) (s2 : σ2) (s3 : σ3) (hI : I s1 s2 s3) (hE : SubE E (Es s1 s2 s3)) (hL : List.Perm L (Ls s1 s2 s3)) : JX b0 Mk N D L E (kInv (Joined3 b0 Mk N D Ls Es I) Q) .normal :=
  fun _ _ ha hw => ⟨s1, s2, s3, hI, ha.sub hE, hw.perm hL⟩
def Joined4 {σ1 σ2 σ3 σ4 : Type} (b0 : World) (Mk : List Nat) (N : Nat) (D : List Deferred) (Ls : σ1 → σ2 → σ3 → σ4 → Heap) (Es : σ1 → σ2 → σ3 → σ4 → Env) (I : σ1 → σ2 → σ3 → σ4 → Prop) : Act → World → Prop := fun a w => ∃ s1 : σ1, ∃ s2 : σ2, ∃ s3 : σ3, ∃ s4 : σ4, I s1 s2 s3 s4 ∧ Holds N D (Es s1 s2 s3 s4) a ∧ SH b0 Mk (Ls s1 s2 s3 s4) w
theorem J_join4 {σ1 σ2 σ3 σ4 : Type} {c : Code} (Ls : σ1 → σ2 → σ3 → σ4 → Heap) (Es : σ1 → σ2 → σ3 → σ4 → Env) (I : σ1 → σ2 → σ3 → σ4 → Prop) (h : J P rd b0 Mk N D L E c (kInv (Joined4 b0 Mk N D Ls Es I) Q)) (k : ∀ (s1 : σ1) (s2 : σ2) (s3 : σ3) (s4 : σ4), I s1 s2 s3 s4 → JX b0 Mk N D (Ls s1 s2 s3 s4) (Es s1 s2 s3 s4) Q .normal) : J P rd b0 Mk N D L E c Q :=
  J_thenI h fun a w ⟨s1, s2, s3, s4, hI, ha, hw⟩ => k s1 s2 s3 s4 hI a w ha hw
theorem JX_join4 {σ1 σ2 σ3 σ4 : Type} {Ls : σ1 → σ2 → σ3 → σ4 → Heap} {Es : σ1 → σ2 → σ3 → σ4 → Env} {I : σ1 → σ2 → σ3 → σ4 → Prop} (s1 : σ1) (s2 : σ2) (s3 : σ3) (s4 : σ4) (hI : I s1 s2 s3 s4) (hE : SubE E (Es s1 s2 s3 s4)) (hL : List.Perm L (Ls s1 s2 s3 s4)) : JX b0 Mk N D L E (kInv (Joined4 b0 Mk N D Ls Es I) Q) .normal :=
  fun _ _ ha hw => ⟨s1, s2, s3, s4, hI, ha.sub hE, hw.perm hL⟩
def Joined5 {σ1 σ2 σ3 σ4 σ5 : Type} (b0 : World) (Mk : List Nat) (N : Nat) (D : List Deferred) (Ls : σ1 → σ2 → σ3 → σ4 → σ5 → Heap) (Es : σ1 → σ2 → σ3 → σ4 → σ5 → Env) (I : σ1 → σ2 → σ3 → σ4 → σ5 → Prop) : Act → World → Prop := fun a w => ∃ s1 : σ1, ∃ s2 : σ2, ∃ s3 : σ3, ∃ s4 : σ4, ∃ s5 : σ5, I s1 s2 s3 s4 s5 ∧ Holds N D (Es s1 s2 s3 s4 s5) a ∧ SH b0 Mk (Ls s1 s2 s3 s4 s5) w
theorem J_join5 {σ1 σ2 σ3 σ4 σ5 : Type} {c : Code} (Ls : σ1 → σ2 → σ3 → σ4 → σ5 → Heap) (Es : σ1 → σ2 → σ3 → σ4 → σ5 → Env) (I : σ1 → σ2 → σ3 → σ4 → σ5 → Prop) (h : J P rd b0 Mk N D L E c (kInv (Joined5 b0 Mk N D Ls Es I) Q)) (k : ∀ (s1 : σ1) (s2 : σ2) (s3 : σ3) (s4 : σ4) (s5 : σ5), I s1 s2 s3 s4 s5 → JX b0 Mk N D (Ls s1 s2 s3 s4 s5) (Es s1 s2 s3 s4 s5) Q .normal) : J P rd b0 Mk N D L E c Q :=
  J_thenI h fun a w ⟨s1, s2, s3, s4, s5, hI, ha, hw⟩ => k s1 s2 s3 s4 s5 hI a w ha hw
theorem JX_join5 {σ1 σ2 σ3 σ4 σ5 : Type} {Ls : σ1 → σ2 → σ3 → σ4 → σ5 → Heap} {Es : σ1 → σ2 → σ3 → σ4 → σ5 → Env} {I : σ1 → σ2 → σ3 → σ4 → σ5 → Prop} (s1 : σ1) (s2 : σ2) (s3 : σ3) (s4 : σ4) (s5 : σ5) (hI : I s1 s2 s3 s4 s5) (hE : SubE E (Es s1 s2 s3 s4 s5)) (hL : List.Perm L (Ls s1 s2 s3 s4 s5)) : JX b0 Mk N D L E (kInv (Joined5 b0 Mk N D Ls Es I) Q) .normal :=
  fun _ _ ha hw => ⟨s1, s2, s3, s4, s5, hI, ha.sub hE, hw.perm hL⟩
def Joined6 {σ1 σ2 σ3 σ4 σ5 σ6 : Type} (b0 : World) (Mk : List Nat) (N : Nat) (D : List Deferred) (Ls : σ1 → σ2 → σ3 → σ4 → σ5 → σ6 → Heap) (Es : σ1 → σ2 → σ3 → σ4 → σ5 → σ6 → Env) (I : σ1 → σ2 → σ3 → σ4 → σ5 → σ6 → Prop) : Act → World → Prop := fun a w => ∃ s1 : σ1, ∃ s2 : σ2, ∃ s3 : σ3, ∃ s4 : σ4, ∃ s5 : σ5, ∃ s6 : σ6, I s1 s2 s3 s4 s5 s6 ∧ Holds N D (Es s1 s2 s3 s4 s5 s6) a ∧ SH b0 Mk (Ls s1 s2 s3 s4 s5 s6) w
theorem J_join6 {σ1 σ2 σ3 σ4 σ5 σ6 : Type} {c : Code} (Ls : σ1 → σ2 → σ3 → σ4 → σ5 → σ6 → Heap) (Es : σ1 → σ2 → σ3 → σ4 → σ5 → σ6 → Env) (I : σ1 → σ2 → σ3 → σ4 → σ5 → σ6 → Prop) (h : J P rd b0 Mk N D L E c (kInv (Joined6 b0 Mk N D Ls Es I) Q)) (k : ∀ (s1 : σ1) (s2 : σ2) (s3 : σ3) (s4 : σ4) (s5 : σ5) (s6 : σ6), I s1 s2 s3 s4 s5 s6 → JX b0 Mk N D (Ls s1 s2 s3 s4 s5 s6) (Es s1 s2 s3 s4 s5 s6) Q .normal) : J P rd b0 Mk N D L E c Q :=
  J_thenI h fun a w ⟨s1, s2, s3, s4, s5, s6, hI, ha, hw⟩ => k s1 s2 s3 s4 s5 s6 hI a w ha hw
theorem JX_join6 {σ1 σ2 σ3 σ4 σ5 σ6 : Type} {Ls : σ1 → σ2 → σ3 → σ4 → σ5 → σ6 → Heap} {Es : σ1 → σ2 → σ3 → σ4 → σ5 → σ6 → Env} {I : σ1 → σ2 → σ3 → σ4 → σ5 → σ6 → Prop} (s1 : σ1) (s2 : σ2) (s3 : σ3) (s4 : σ4) (s5 : σ5) (s6 : σ6) (hI : I s1 s2 s3 s4 s5 s6) (hE : SubE E (Es s1 s2 s3 s4 s5 s6)) (hL : List.Perm L (Ls s1 s2 s3 s4 s5 s6)) : JX b0 Mk N D L E (kInv (Joined6 b0 Mk N D Ls Es I) Q) .normal :=
  fun _ _ ha hw => ⟨s1, s2, s3, s4, s5, s6, hI, ha.sub hE, hw.perm hL⟩
def Joined7 {σ1 σ2 σ3 σ4 σ5 σ6 σ7 : Type} (b0 : World) (Mk : List Nat) (N : Nat) (D : List Deferred) (Ls : σ1 → σ2 → σ3 → σ4 → σ5 → σ6 → σ7 → Heap) (Es : σ1 → σ2 → σ3 → σ4 → σ5 → σ6 → σ7 → Env) (I : σ1 → σ2 → σ3 → σ4 → σ5 → σ6 → σ7 → Prop) : Act → World → Prop := fun a w => ∃ s1 : σ1, ∃ s2 : σ2, ∃ s3 : σ3, ∃ s4 : σ4, ∃ s5 : σ5, ∃ s6 : σ6, ∃ s7 : σ7, I s1 s2 s3 s4 s5 s6 s7 ∧ Holds N D (Es s1 s2 s3 s4 s5 s6 s7) a ∧ SH b0 Mk (Ls s1 s2 s3 s4 s5 s6 s7) w
theorem J_join7 {σ1 σ2 σ3 σ4 σ5 σ6 σ7 : Type} {c : Code} (Ls : σ1 → σ2 → σ3 → σ4 → σ5 → σ6 → σ7 → Heap) (Es : σ1 → σ2 → σ3 → σ4 → σ5 → σ6 → σ7 → Env) (I : σ1 → σ2 → σ3 → σ4 → σ5 → σ6 → σ7 → Prop) (h : J P rd b0 Mk N D L E c (kInv (Joined7 b0 Mk N D Ls Es I) Q)) (k : ∀ (s1 : σ1) (s2 : σ2) (s3 : σ3) (s4 : σ4) (s5 : σ5) (s6 : σ6) (s7 : σ7), I s1 s2 s3 s4 s5 s6 s7 → JX b0 Mk N D (Ls s1 s2 s3 s4 s5 s6 s7) (Es s1 s2 s3 s4 s5 s6 s7) Q .normal) : J P rd b0 Mk N D L E c Q :=
  J_thenI h fun a w ⟨s1, s2, s3, s4, s5, s6, s7, hI, ha, hw⟩ => k s1 s2 s3 s4 s5 s6 s7 hI a w ha hw
theorem JX_join7 {σ1 σ2 σ3 σ4 σ5 σ6 σ7 : Type} {Ls : σ1 → σ2 → σ3 → σ4 → σ5 → σ6 → σ7 → Heap} {Es : σ1 → σ2 → σ3 → σ4 → σ5 → σ6 → σ7 → Env} {I : σ1 → σ2 → σ3 → σ4 → σ5 → σ6 → σ7 → Prop} (s1 : σ1) (s2 : σ2) (s3 : σ3) (s4 : σ4) (s5 : σ5) (s6 : σ6) (s7 : σ7) (hI : I s1 s2 s3 s4 s5 s6 s7) (hE : SubE E (Es s1 s2 s3 s4 s5 s6 s7)) (hL : List.Perm L (Ls s1 s2 s3 s4 s5 s6 s7)) : JX b0 Mk N D L E (kInv (Joined7 b0 Mk N D Ls Es I) Q) .normal :=
  fun _ _ ha hw => ⟨s1, s2, s3, s4, s5, s6, s7, hI, ha.sub hE, hw.perm hL⟩
def Joined8 {σ1 σ2 σ3 σ4 σ5 σ6 σ7 σ8 : Type} (b0 : World) (Mk : List Nat) (N : Nat) (D : List Deferred) (Ls : σ1 → σ2 → σ3 → σ4 → σ5 → σ6 → σ7 → σ8 → Heap) (Es : σ1 → σ2 → σ3 → σ4 → σ5 → σ6 → σ7 → σ8 → Env) (I : σ1 → σ2 → σ3 → σ4 → σ5 → σ6 → σ7 → σ8 → Prop) : Act → World → Prop := fun a w => ∃ s1 : σ1, ∃ s2 : σ2, ∃ s3 : σ3, ∃ s4 : σ4, ∃ s5 : σ5, ∃ s6 : σ6, ∃ s7 : σ7, ∃ s8 : σ8, I s1 s2 s3 s4 s5 s6 s7 s8 ∧ Holds N D (Es s1 s2 s3 s4 s5 s6 s7 s8) a ∧ SH b0 Mk (Ls s1 s2 s3 s4 s5 s6 s7 s8) w
theorem J_join8 {σ1 σ2 σ3 σ4 σ5 σ6 σ7 σ8 : Type} {c : Code} (Ls : σ1 → σ2 → σ3 → σ4 → σ5 → σ6 → σ7 → σ8 → Heap) (Es : σ1 → σ2 → σ3 → σ4 → σ5 → σ6 → σ7 → σ8 → Env) (I : σ1 → σ2 → σ3 → σ4 → σ5 → σ6 → σ7 → σ8 → Prop) (h : J P rd b0 Mk N D L E c (kInv (Joined8 b0 Mk N D Ls Es I) Q)) (k : ∀ (s1 : σ1) (s2 : σ2) (s3 : σ3) (s4 : σ4) (s5 : σ5) (s6 : σ6) (s7 : σ7) (s8 : σ8), I s1 s2 s3 s4 s5 s6 s7 s8 → JX b0 Mk N D (Ls s1 s2 s3 s4 s5 s6 s7 s8) (Es s1 s2 s3 s4 s5 s6 s7 s8) Q .normal) : J P rd b0 Mk N D L E c Q :=
  J_thenI h fun a w ⟨s1, s2, s3, s4, s5, s6, s7, s8, hI, ha, hw⟩ => k s1 s2 s3 s4 s5 s6 s7 s8 hI a w ha hw
theorem JX_join8 {σ1 σ2 σ3 σ4 σ5 σ6 σ7 σ8 : Type} {Ls : σ1 → σ2 → σ3 → σ4 → σ5 → σ6 → σ7 → σ8 → Heap} {Es : σ1 → σ2 → σ3 → σ4 → σ5 → σ6 → σ7 → σ8 → Env} {I : σ1 → σ2 → σ3 → σ4 → σ5 → σ6 → σ7 → σ8 → Prop} (s1 : σ1) (s2 : σ2) (s3 : σ3) (s4 : σ4) (s5 : σ5) (s6 : σ6) (s7 : σ7) (s8 : σ8) (hI : I s1 s2 s3 s4 s5 s6 s7 s8) (hE : SubE E (Es s1 s2 s3 s4 s5 s6 s7 s8)) (hL : List.Perm L (Ls s1 s2 s3 s4 s5 s6 s7 s8)) : JX b0 Mk N D L E (kInv (Joined8 b0 Mk N D Ls Es I) Q) .normal :=
  fun _ _ ha hw => ⟨s1, s2, s3, s4, s5, s6, s7, s8, hI, ha.sub hE, hw.perm hL⟩
def Joined9 {σ1 σ2 σ3 σ4 σ5 σ6 σ7 σ8 σ9 : Type} (b0 : World) (Mk : List Nat) (N : Nat) (D : List Deferred) (Ls : σ1 → σ2 → σ3 → σ4 → σ5 → σ6 → σ7 → σ8 → σ9 → Heap) (Es : σ1 → σ2 → σ3 → σ4 → σ5 → σ6 → σ7 → σ8 → σ9 → Env) (I : σ1 → σ2 → σ3 → σ4 → σ5 → σ6 → σ7 → σ8 → σ9 → Prop) : Act → World → Prop := fun a w => ∃ s1 : σ1, ∃ s2 : σ2, ∃ s3 : σ3, ∃ s4 : σ4, ∃ s5 : σ5, ∃ s6 : σ6, ∃ s7 : σ7, ∃ s8 : σ8, ∃ s9 : σ9, I s1 s2 s3 s4 s5 s6 s7 s8 s9 ∧ Holds N D (Es s1 s2 s3 s4 s5 s6 s7 s8 s9) a ∧ SH b0 Mk (Ls s1 s2 s3 s4 s5 s6 s7 s8 s9) w
theorem J_join9 {σ1 σ2 σ3 σ4 σ5 σ6 σ7 σ8 σ9 : Type} {c : Code} (Ls : σ1 → σ2 → σ3 → σ4 → σ5 → σ6 → σ7 → σ8 → σ9 → Heap) (Es : σ1 → σ2 → σ3 → σ4 → σ5 → σ6 → σ7 → σ8 → σ9 → Env) (I : σ1 → σ2 → σ3 → σ4 → σ5 → σ6 → σ7 → σ8 → σ9 → Prop) (h : J P rd b0 Mk N D L E c (kInv (Joined9 b0 Mk N D Ls Es I) Q)) (k : ∀ (s1 : σ1) (s2 : σ2) (s3 : σ3) (s4 : σ4) (s5 : σ5) (s6 : σ6) (s7 : σ7) (s8 : σ8) (s9 : σ9), I s1 s2 s3 s4 s5 s6 s7 s8 s9 → JX b0 Mk N D (Ls s1 s2 s3 s4 s5 s6 s7 s8 s9) (Es s1 s2 s3 s4 s5 s6 s7 s8 s9) Q .normal) : J P rd b0 Mk N D L E c Q :=
  J_thenI h fun a w ⟨s1, s2, s3, s4, s5, s6, s7, s8, s9, hI, ha, hw⟩ => k s1 s2 s3 s4 s5 s6 s7 s8 s9 hI a w ha hw
theorem JX_join9 {σ1 σ2 σ3 σ4 σ5 σ6 σ7 σ8 σ9 : Type} {Ls : σ1 → σ2 → σ3 → σ4 → σ5 → σ6 → σ7 → σ8 → σ9 → Heap} {Es : σ1 → σ2 → σ3 → σ4 → σ5 → σ6 → σ7 → σ8 → σ9 → Env} {I : σ1 → σ2 → σ3 → σ4 → σ5 → σ6 → σ7 → σ8 → σ9 → Prop} (s1 : σ1) (s2 : σ2) (s3 : σ3) (s4 : σ4) (s5 : σ5) (s6 : σ6) (s7 : σ7) (s8 : σ8) (s9 : σ9) (hI : I s1 s2 s3 s4 s5 s6 s7 s8 s9) (hE : SubE E (Es s1 s2 s3 s4 s5 s6 s7 s8 s9)) (hL : List.Perm L (Ls s1 s2 s3 s4 s5 s6 s7 s8 s9)) : JX b0 Mk N D L E (kInv (Joined9 b0 Mk N D Ls Es I) Q) .normal :=
  fun _ _ ha hw => ⟨s1, s2, s3, s4, s5, s6, s7, s8, s9, hI, ha.sub hE, hw.perm hL⟩
def Joined10 {σ1 σ2 σ3 σ4 σ5 σ6 σ7 σ8 σ9 σ10 : Type} (b0 : World) (Mk : List Nat) (N : Nat) (D : List Deferred) (Ls : σ1 → σ2 → σ3 → σ4 → σ5 → σ6 → σ7 → σ8 → σ9 → σ10 → Heap) (Es : σ1 → σ2 → σ3 → σ4 → σ5 → σ6 → σ7 → σ8 → σ9 → σ10 → Env) (I : σ1 → σ2 → σ3 → σ4 → σ5 → σ6 → σ7 → σ8 → σ9 → σ10 → Prop) : Act → World → Prop := fun a w => ∃ s1 : σ1, ∃ s2 : σ2, ∃ s3 : σ3, ∃ s4 : σ4, ∃ s5 : σ5, ∃ s6 : σ6, ∃ s7 : σ7, ∃ s8 : σ8, ∃ s9 : σ9, ∃ s10 : σ10, I s1 s2 s3 s4 s5 s6 s7 s8 s9 s10 ∧ Holds N D (Es s1 s2 s3 s4 s5 s6 s7 s8 s9 s10) a ∧ SH b0 Mk (Ls s1 s2 s3 s4 s5 s6 s7 s8 s9 s10) w
theorem J_join10 {σ1 σ2 σ3 σ4 σ5 σ6 σ7 σ8 σ9 σ10 : Type} {c : Code} (Ls : σ1 → σ2 → σ3 → σ4 → σ5 → σ6 → σ7 → σ8 → σ9 → σ10 → Heap) (Es : σ1 → σ2 → σ3 → σ4 → σ5 → σ6 → σ7 → σ8 → σ9 → σ10 → Env) (I : σ1 → σ2 → σ3 → σ4 → σ5 → σ6 → σ7 → σ8 → σ9 → σ10 → Prop) (h : J P rd b0 Mk N D L E c (kInv (Joined10 b0 Mk N D Ls Es I) Q)) (k : ∀ (s1 : σ1) (s2 : σ2) (s3 : σ3) (s4 : σ4) (s5 : σ5) (s6 : σ6) (s7 : σ7) (s8 : σ8) (s9 : σ9) (s10 : σ10), I s1 s2 s3 s4 s5 s6 s7 s8 s9 s10 → JX b0 Mk N D (Ls s1 s2 s3 s4 s5 s6 s7 s8 s9 s10) (Es s1 s2 s3 s4 s5 s6 s7 s8 s9 s10) Q .normal) : J P rd b0 Mk N D L E c Q :=
  J_thenI h fun a w ⟨s1, s2, s3, s4, s5, s6, s7, s8, s9, s10, hI, ha, hw⟩ => k s1 s2 s3 s4 s5 s6 s7 s8 s9 s10 hI a w ha hw
theorem JX_join10 {σ1 σ2 σ3 σ4 σ5 σ6 σ7 σ8 σ9 σ10 : Type} {Ls : σ1 → σ2 → σ3 → σ4 → σ5 → σ6 → σ7 → σ8 → σ9 → σ10 → Heap} {Es : σ1 → σ2 → σ3 → σ4 → σ5 → σ6 → σ7 → σ8 → σ9 → σ10 → Env} {I : σ1 → σ2 → σ3 → σ4 → σ5 → σ6 → σ7 → σ8 → σ9 → σ10 → Prop} (s1 : σ1) (s2 : σ2) (s3 : σ3) (s4 : σ4) (s5 : σ5) (s6 : σ6) (s7 : σ7) (s8 : σ8) (s9 : σ9) (s10 : σ10) (hI : I s1 s2 s3 s4 s5 s6 s7 s8 s9 s10) (hE : SubE E (Es s1 s2 s3 s4 s5 s6 s7 s8 s9 s10)) (hL : List.Perm L (Ls s1 s2 s3 s4 s5 s6 s7 s8 s9 s10)) : JX b0 Mk N D L E (kInv (Joined10 b0 Mk N D Ls Es I) Q) .normal :=
  fun _ _ ha hw => ⟨s1, s2, s3, s4, s5, s6, s7, s8, s9, s10, hI, ha.sub hE, hw.perm hL⟩
def Joined11 {σ1 σ2 σ3 σ4 σ5 σ6 σ7 σ8 σ9 σ10 σ11 : Type} (b0 : World) (Mk : List Nat) (N : Nat) (D : List Deferred) (Ls : σ1 → σ2 → σ3 → σ4 → σ5 → σ6 → σ7 → σ8 → σ9 → σ10 → σ11 → Heap) (Es : σ1 → σ2 → σ3 → σ4 → σ5 → σ6 → σ7 → σ8 → σ9 → σ10 → σ11 → Env) (I : σ1 → σ2 → σ3 → σ4 → σ5 → σ6 → σ7 → σ8 → σ9 → σ10 → σ11 → Prop) : Act → World → Prop := fun a w => ∃ s1 : σ1, ∃ s2 : σ2, ∃ s3 : σ3, ∃ s4 : σ4, ∃ s5 : σ5, ∃ s6 : σ6, ∃ s7 : σ7, ∃ s8 : σ8, ∃ s9 : σ9, ∃ s10 : σ10, ∃ s11 : σ11, I s1 s2 s3 s4 s5 s6 s7 s8 s9 s10 s11 ∧ Holds N D (Es s1 s2 s3 s4 s5 s6 s7 s8 s9 s10 s11) a ∧ SH b0 Mk (Ls s1 s2 s3 s4 s5 s6 s7 s8 s9 s10 s11) w
theorem J_join11 {σ1 σ2 σ3 σ4 σ5 σ6 σ7 σ8 σ9 σ10 σ11 : Type} {c : Code} (Ls : σ1 → σ2 → σ3 → σ4 → σ5 → σ6 → σ7 → σ8 → σ9 → σ10 → σ11 → Heap) (Es : σ1 → σ2 → σ3 → σ4 → σ5 → σ6 → σ7 → σ8 → σ9 → σ10 → σ11 → Env) (I : σ1 → σ2 → σ3 → σ4 → σ5 → σ6 → σ7 → σ8 → σ9 → σ10 → σ11 → Prop) (h : J P rd b0 Mk N D L E c (kInv (Joined11 b0 Mk N D Ls Es I) Q)) (k : ∀ (s1 : σ1) (s2 : σ2) (s3 : σ3) (s4 : σ4) (s5 : σ5) (s6 : σ6) (s7 : σ7) (s8 : σ8) (s9 : σ9) (s10 : σ10) (s11 : σ11), I s1 s2 s3 s4 s5 s6 s7 s8 s9 s10 s11 → JX b0 Mk N D (Ls s1 s2 s3 s4 s5 s6 s7 s8 s9 s10 s11) (Es s1 s2 s3 s4 s5 s6 s7 s8 s9 s10 s11) Q .normal) : J P rd b0 Mk N D L E c Q :=
  J_thenI h fun a w ⟨s1, s2, s3, s4, s5, s6, s7, s8, s9, s10, s11, hI, ha, hw⟩ => k s1 s2 s3 s4 s5 s6 s7 s8 s9 s10 s11 hI a w ha hw
theorem JX_join11 {σ1 σ2 σ3 σ4 σ5 σ6 σ7 σ8 σ9 σ10 σ11 : Type} {Ls : σ1 → σ2 → σ3 → σ4 → σ5 → σ6 → σ7 → σ8 → σ9 → σ10 → σ11 → Heap} {Es : σ1 → σ2 → σ3 → σ4 → σ5 → σ6 → σ7 → σ8 → σ9 → σ10 → σ11 → Env} {I : σ1 → σ2 → σ3 → σ4 → σ5 → σ6 → σ7 → σ8 → σ9 → σ10 → σ11 → Prop} (s1 : σ1) (s2 : σ2) (s3 : σ3) (s4 : σ4) (s5 : σ5) (s6 : σ6) (s7 : σ7) (s8 : σ8) (s9 : σ9) (s10 : σ10) (s11 : σ11) (hI : I s1 s2 s3 s4 s5 s6 s7 s8 s9 s10 s11) (hE : SubE E (Es s1 s2 s3 s4 s5 s6 s7 s8 s9 s10 s11)) (hL : List.Perm L (Ls s1 s2 s3 s4 s5 s6 s7 s8 s9 s10 s11)) : JX b0 Mk N D L E (kInv (Joined11 b0 Mk N D Ls Es I) Q) .normal :=
  fun _ _ ha hw => ⟨s1, s2, s3, s4, s5, s6, s7, s8, s9, s10, s11, hI, ha.sub hE, hw.perm hL⟩
def Joined12 {σ1 σ2 σ3 σ4 σ5 σ6 σ7 σ8 σ9 σ10 σ11 σ12 : Type} (b0 : World) (Mk : List Nat) (N : Nat) (D : List Deferred) (Ls : σ1 → σ2 → σ3 → σ4 → σ5 → σ6 → σ7 → σ8 → σ9 → σ10 → σ11 → σ12 → Heap) (Es : σ1 → σ2 → σ3 → σ4 → σ5 → σ6 → σ7 → σ8 → σ9 → σ10 → σ11 → σ12 → Env) (I : σ1 → σ2 → σ3 → σ4 → σ5 → σ6 → σ7 → σ8 → σ9 → σ10 → σ11 → σ12 → Prop) : Act → World → Prop := fun a w => ∃ s1 : σ1, ∃ s2 : σ2, ∃ s3 : σ3, ∃ s4 : σ4, ∃ s5 : σ5, ∃ s6 : σ6, ∃ s7 : σ7, ∃ s8 : σ8, ∃ s9 : σ9, ∃ s10 : σ10, ∃ s11 : σ11, ∃ s12 : σ12, I s1 s2 s3 s4 s5 s6 s7 s8 s9 s10 s11 s12 ∧ Holds N D (Es s1 s2 s3 s4 s5 s6 s7 s8 s9 s10 s11 s12) a ∧ SH b0 Mk (Ls s1 s2 s3 s4 s5 s6 s7 s8 s9 s10 s11 s12) w
theorem J_join12 {σ1 σ2 σ3 σ4 σ5 σ6 σ7 σ8 σ9 σ10 σ11 σ12 : Type} {c : Code} (Ls : σ1 → σ2 → σ3 → σ4 → σ5 → σ6 → σ7 → σ8 → σ9 → σ10 → σ11 → σ12 → Heap) (Es : σ1 → σ2 → σ3 → σ4 → σ5 → σ6 → σ7 → σ8 → σ9 → σ10 → σ11 → σ12 → Env) (I : σ1 → σ2 → σ3 → σ4 → σ5 → σ6 → σ7 → σ8 → σ9 → σ10 → σ11 → σ12 → Prop) (h : J P rd b0 Mk N D L E c (kInv (Joined12 b0 Mk N D Ls Es I) Q)) (k : ∀ (s1 : σ1) (s2 : σ2) (s3 : σ3) (s4 : σ4) (s5 : σ5) (s6 : σ6) (s7 : σ7) (s8 : σ8) (s9 : σ9) (s10 : σ10) (s11 : σ11) (s12 : σ12), I s1 s2 s3 s4 s5 s6 s7 s8 s9 s10 s11 s12 → JX b0 Mk N D (Ls s1 s2 s3 s4 s5 s6 s7 s8 s9 s10 s11 s12) (Es s1 s2 s3 s4 s5 s6 s7 s8 s9 s10 s11 s12) Q .normal) : J P rd b0 Mk N D L E c Q :=
  J_thenI h fun a w ⟨s1, s2, s3, s4, s5, s6, s7, s8, s9, s10, s11, s12, hI, ha, hw⟩ => k s1 s2 s3 s4 s5 s6 s7 s8 s9 s10 s11 s12 hI a w ha hw
theorem JX_join12 {σ1 σ2 σ3 σ4 σ5 σ6 σ7 σ8 σ9 σ10 σ11 σ12 : Type} {Ls : σ1 → σ2 → σ3 → σ4 → σ5 → σ6 → σ7 → σ8 → σ9 → σ10 → σ11 → σ12 → Heap} {Es : σ1 → σ2 → σ3 → σ4 → σ5 → σ6 → σ7 → σ8 → σ9 → σ10 → σ11 → σ12 → Env} {I : σ1 → σ2 → σ3 → σ4 → σ5 → σ6 → σ7 → σ8 → σ9 → σ10 → σ11 → σ12 → Prop} (s1 : σ1) (s2 : σ2) (s3 : σ3) (s4 : σ4) (s5 : σ5) (s6 : σ6) (s7 : σ7) (s8 : σ8) (s9 : σ9) (s10 : σ10) (s11 : σ11) (s12 : σ12) (hI : I s1 s2 s3 s4 s5 s6 s7 s8 s9 s10 s11 s12) (hE : SubE E (Es s1 s2 s3 s4 s5 s6 s7 s8 s9 s10 s11 s12)) (hL : List.Perm L (Ls s1 s2 s3 s4 s5 s6 s7 s8 s9 s10 s11 s12)) : JX b0 Mk N D L E (kInv (Joined12 b0 Mk N D Ls Es I) Q) .normal :=
  fun _ _ ha hw => ⟨s1, s2, s3, s4, s5, s6, s7, s8, s9, s10, s11, s12, hI, ha.sub hE, hw.perm hL⟩
/-- The rest of a loop, ahead of a round. -/
def wpLoop (P : Program) (rd : Option Nat) (c : Code) (Q : Exit → Act → World → Prop) (a : Act) (w : World) : Prop :=
  ∀ (b : Frame) (k : List Item) (cs : List Frame), b.roundOf = (FW rd).round → (FW rd).fn b.fn → (FW rd).room (cs.length + 1 + 0) →
    ∃ e a' w', Q e a' w' ∧ ArrivesIn (Machine.fenced P (FW rd)) P (lone (b.atR a (.code c :: .inLoop c :: k)) cs w) b k cs e a' w'
def kLoop (P : Program) (rd : Option Nat) (c : Code) (Q : Exit → Act → World → Prop) : Exit → Act → World → Prop := Exit.then (wpLoop P rd c Q) Q
theorem JX_again {c : Code} (h : J P rd b0 Mk N D L E c (kLoop P rd c Q)) : JX b0 Mk N D L E (kLoop P rd c Q) .normal := by
  intro a w ha hw b k cs hro hb hr
  obtain ⟨e, a₁, w₁, hq, harr⟩ := h a w ha hw b (.inLoop c :: k) cs hro hb hr
  cases e with
  | normal =>
    obtain ⟨e₂, a₂, w₂, hq₂, harr₂⟩ := hq b k cs hro hb hr
    exact ⟨e₂, a₂, w₂, hq₂, .of_steps (StepsIn.trans harr (.one (fenced_calm hb hr rfl) stepR_inLoop)) harr₂⟩
  | exit id => exact ⟨_, a₁, w₁, hq, .pass (x := .inLoop c) rfl (fun _ _ => .inl (by simp)) harr⟩
  | goto l => exact ⟨_, a₁, w₁, hq, .pass (x := .inLoop c) rfl (fun _ _ => .inl (by simp)) harr⟩
  | ret => exact ⟨_, a₁, w₁, hq, .pass (x := .inLoop c) rfl (fun _ _ => .inl (by simp)) harr⟩
  | panic ch => exact ⟨_, a₁, w₁, hq, .pass (x := .inLoop c) rfl (fun _ _ => .inl (by simp)) harr⟩
  | outgrown => exact ⟨_, a₁, w₁, hq, .pass (x := .inLoop c) rfl (fun _ _ => .inl (by simp)) harr⟩
theorem J_unroll {c : Code} (h : J P rd b0 Mk N D L E c (kLoop P rd c Q)) : J P rd b0 Mk N D L E (Code.loop c) Q := by
  intro a w ha hw b k cs hro hb hr
  obtain ⟨e, a', w', hq, harr⟩ := JX_again h a w ha hw b k cs hro hb hr
  exact ⟨e, a', w', hq, .of_steps (.one (fenced_calm hb hr rfl) stepR_loop) harr⟩

/-! ### callees walked in place -/
variable {op : Op} {ty : TypeId} {pos : String} {after : Array Edge} {d : Nat}
/-- Behind the callee: its answer goes into slot d, and the caller goes on. -/
def inK (N : Nat) (D : List Deferred) (E : Env) (K : Act → World → Prop) (d : Nat) : Ending → World → Prop := fun e w' => ∃ v, e = .returned v ∧ ∀ a, Holds N D E a → K (a.put (some d) v) w'

theorem calls_in {f : FuncId} {fn : Func} {c : Code} {args : List Value} {N' : Nat} {R : Ending → World → Prop} {w : World} (hw : SH b0 Mk L w) (hf : P.funcs[f]? = some fn) (hN : fn.ntmps = N') (hb : fn.body = some c) (ha : Nat.ble args.length N' = true)
    (h : J P none b0 Mk N' [] L (argsE 0 args) c (bodyPost P fn R)) : Calls P f args.toArray w R := by
  subst hN
  exact callsIn_wide.1 (callsIn_of_wp (F := FW none) (n := 0) hf hb trivial (h _ w (holds_begin args ha) hw))
theorem calls_inM {f : FuncId} {fn : Func} {c : Code} {args : List Value} {N' : Nat} {R : Ending → World → Prop} {w : World} (hw : SH b0 Mk L w) (hf : P.funcs[f]? = some fn) (hN : fn.ntmps = N') (hb : fn.body = some c) (ha : Nat.ble args.length N' = true)
    (h : J P none b0 Mk N' [] L (argsE 0 args) c (bodyPostM (FW none) 0 P fn R)) : Calls P f args.toArray w R := by
  subst hN
  exact callsIn_wide.1 (callsIn_of_wp_marks (F := FW none) (n := 0) hf hb trivial (h _ w (holds_begin args ha) hw))

theorem JL_inl {l : List Oper} {f : FuncId} {fn : Func} {c : Code} {args : List Value} {N' : Nat} (hc : RunC P N D b0 Mk L E op ty f args) (hf : P.funcs[f]? = some fn) (hN : fn.ntmps = N')
    (h : J P none b0 Mk N' [] L (argsE 0 args) c (bodyPost P fn (inK N D E (wpL P rd ops T l) d))) (hb : fn.body = some c := by rfl) (ha : Nat.ble args.length N' = true := by rfl) (hn : notDeferOp op = true := by rfl) :
    JL P rd b0 Mk N D ops L E ({ dst := some d, op := op, type := ty, pos := pos, after := after, guard := none } :: l) T := by
  intro a w ha0 hw
  unfold wpL
  rw [if_pos (by rfl)]
  refine wpIn_enter (notDefer_mk hn) (by rw [execOp_mkO]; exact hc a w ha0 hw) ((calls_in hw hf hN hb ha h).mono fun e w' he => ?_)
  obtain ⟨v, rfl, hk⟩ := he
  exact ⟨v, rfl, hk a ha0⟩
theorem JD_inl {l : List (Bool × Oper)} {f : FuncId} {fn : Func} {c : Code} {args : List Value} {N' : Nat} (hc : RunC P N D b0 Mk (V ++ L) E op ty f args) (hf : P.funcs[f]? = some fn) (hN : fn.ntmps = N')
    (h : J P none b0 Mk N' [] (V ++ L) (argsE 0 args) c (bodyPost P fn (inK N D E (fun a' w' => ∃ S' : World → Prop, (∀ x, S' x → SH b0 Mk L x) ∧ S' w' ∧ wpS P rd ops T S' l a' w') d))) (hb : fn.body = some c := by rfl) (ha : Nat.ble args.length N' = true := by rfl) (hn : notDeferOp op = true := by rfl) :
    JD P rd b0 Mk N D ops L V E ((false, { dst := some d, op := op, type := ty, pos := pos, after := after, guard := none }) :: l) T := by
  intro a w ha0 hw
  unfold wpS
  rw [if_pos (by rfl)]
  refine wpIn_enter (notDefer_mk hn) (by rw [execOp_mkO]; exact hc a w ha0 hw) ((calls_in hw hf hN hb ha h).mono fun e w' he => ?_)
  obtain ⟨v, rfl, hk⟩ := he
  exact ⟨v, rfl, hk a ha0⟩
theorem JL_inlM {l : List Oper} {f : FuncId} {fn : Func} {c : Code} {args : List Value} {N' : Nat} (hc : RunC P N D b0 Mk L E op ty f args) (hf : P.funcs[f]? = some fn) (hN : fn.ntmps = N')
    (h : J P none b0 Mk N' [] L (argsE 0 args) c (bodyPostM (FW none) 0 P fn (inK N D E (wpL P rd ops T l) d))) (hb : fn.body = some c := by rfl) (ha : Nat.ble args.length N' = true := by rfl) (hn : notDeferOp op = true := by rfl) :
    JL P rd b0 Mk N D ops L E ({ dst := some d, op := op, type := ty, pos := pos, after := after, guard := none } :: l) T := by
  intro a w ha0 hw
  unfold wpL
  rw [if_pos (by rfl)]
  refine wpIn_enter (notDefer_mk hn) (by rw [execOp_mkO]; exact hc a w ha0 hw) ((calls_inM hw hf hN hb ha h).mono fun e w' he => ?_)
  obtain ⟨v, rfl, hk⟩ := he
  exact ⟨v, rfl, hk a ha0⟩
theorem JD_inlM {l : List (Bool × Oper)} {f : FuncId} {fn : Func} {c : Code} {args : List Value} {N' : Nat} (hc : RunC P N D b0 Mk (V ++ L) E op ty f args) (hf : P.funcs[f]? = some fn) (hN : fn.ntmps = N')
    (h : J P none b0 Mk N' [] (V ++ L) (argsE 0 args) c (bodyPostM (FW none) 0 P fn (inK N D E (fun a' w' => ∃ S' : World → Prop, (∀ x, S' x → SH b0 Mk L x) ∧ S' w' ∧ wpS P rd ops T S' l a' w') d))) (hb : fn.body = some c := by rfl) (ha : Nat.ble args.length N' = true := by rfl) (hn : notDeferOp op = true := by rfl) :
    JD P rd b0 Mk N D ops L V E ((false, { dst := some d, op := op, type := ty, pos := pos, after := after, guard := none }) :: l) T := by
  intro a w ha0 hw
  unfold wpS
  rw [if_pos (by rfl)]
  refine wpIn_enter (notDefer_mk hn) (by rw [execOp_mkO]; exact hc a w ha0 hw) ((calls_inM hw hf hN hb ha h).mono fun e w' he => ?_)
  obtain ⟨v, rfl, hk⟩ := he
  exact ⟨v, rfl, hk a ha0⟩
theorem JL_inlg {l : List Oper} {f : FuncId} {fn : Func} {c : Code} {args : List Value} {N' : Nat} {g t : Nat} {b : Bool} {u : Value} (hc : RunC P N D b0 Mk L E op ty f args) (hf : P.funcs[f]? = some fn) (hN : fn.ntmps = N')
    (h : J P none b0 Mk N' [] L (argsE 0 args) c (bodyPost P fn (inK N D E (wpL P rd ops T l) d))) (hg : (ops[g]?).bind (·.dst) = some t := by rfl) (hu : look E t = some u := by rfl) (hb2 : wantB u b = true := by rfl) (ht : Nat.blt t N = true := by rfl) (hb : fn.body = some c := by rfl) (ha : Nat.ble args.length N' = true := by rfl) (hn : notDeferOp op = true := by rfl) :
    JL P rd b0 Mk N D ops L E ({ dst := some d, op := op, type := ty, pos := pos, after := after, guard := some (g, b) } :: l) T := by
  intro a w ha0 hw
  unfold wpL
  rw [if_pos (by simp only [Region.wanted]; rw [yielded_of ha0 hg hu ht]; exact hb2)]
  refine wpIn_enter (notDefer_mk hn) (by rw [execOp_mkO]; exact hc a w ha0 hw) ((calls_in hw hf hN hb ha h).mono fun e w' he => ?_)
  obtain ⟨v, rfl, hk⟩ := he
  exact ⟨v, rfl, hk a ha0⟩
theorem JD_inlg {l : List (Bool × Oper)} {f : FuncId} {fn : Func} {c : Code} {args : List Value} {N' : Nat} {g t : Nat} {b : Bool} {u : Value} (hc : RunC P N D b0 Mk (V ++ L) E op ty f args) (hf : P.funcs[f]? = some fn) (hN : fn.ntmps = N')
    (h : J P none b0 Mk N' [] (V ++ L) (argsE 0 args) c (bodyPost P fn (inK N D E (fun a' w' => ∃ S' : World → Prop, (∀ x, S' x → SH b0 Mk L x) ∧ S' w' ∧ wpS P rd ops T S' l a' w') d))) (hg : (ops[g]?).bind (·.dst) = some t := by rfl) (hu : look E t = some u := by rfl) (hb2 : wantB u b = true := by rfl) (ht : Nat.blt t N = true := by rfl) (hb : fn.body = some c := by rfl) (ha : Nat.ble args.length N' = true := by rfl) (hn : notDeferOp op = true := by rfl) :
    JD P rd b0 Mk N D ops L V E ((false, { dst := some d, op := op, type := ty, pos := pos, after := after, guard := some (g, b) }) :: l) T := by
  intro a w ha0 hw
  unfold wpS
  rw [if_pos (by simp only [Region.wanted]; rw [yielded_of ha0 hg hu ht]; exact hb2)]
  refine wpIn_enter (notDefer_mk hn) (by rw [execOp_mkO]; exact hc a w ha0 hw) ((calls_in hw hf hN hb ha h).mono fun e w' he => ?_)
  obtain ⟨v, rfl, hk⟩ := he
  exact ⟨v, rfl, hk a ha0⟩
theorem JL_inlMg {l : List Oper} {f : FuncId} {fn : Func} {c : Code} {args : List Value} {N' : Nat} {g t : Nat} {b : Bool} {u : Value} (hc : RunC P N D b0 Mk L E op ty f args) (hf : P.funcs[f]? = some fn) (hN : fn.ntmps = N')
    (h : J P none b0 Mk N' [] L (argsE 0 args) c (bodyPostM (FW none) 0 P fn (inK N D E (wpL P rd ops T l) d))) (hg : (ops[g]?).bind (·.dst) = some t := by rfl) (hu : look E t = some u := by rfl) (hb2 : wantB u b = true := by rfl) (ht : Nat.blt t N = true := by rfl) (hb : fn.body = some c := by rfl) (ha : Nat.ble args.length N' = true := by rfl) (hn : notDeferOp op = true := by rfl) :
    JL P rd b0 Mk N D ops L E ({ dst := some d, op := op, type := ty, pos := pos, after := after, guard := some (g, b) } :: l) T := by
  intro a w ha0 hw
  unfold wpL
  rw [if_pos (by simp only [Region.wanted]; rw [yielded_of ha0 hg hu ht]; exact hb2)]
  refine wpIn_enter (notDefer_mk hn) (by rw [execOp_mkO]; exact hc a w ha0 hw) ((calls_inM hw hf hN hb ha h).mono fun e w' he => ?_)
  obtain ⟨v, rfl, hk⟩ := he
  exact ⟨v, rfl, hk a ha0⟩
theorem JD_inlMg {l : List (Bool × Oper)} {f : FuncId} {fn : Func} {c : Code} {args : List Value} {N' : Nat} {g t : Nat} {b : Bool} {u : Value} (hc : RunC P N D b0 Mk (V ++ L) E op ty f args) (hf : P.funcs[f]? = some fn) (hN : fn.ntmps = N')
    (h : J P none b0 Mk N' [] (V ++ L) (argsE 0 args) c (bodyPostM (FW none) 0 P fn (inK N D E (fun a' w' => ∃ S' : World → Prop, (∀ x, S' x → SH b0 Mk L x) ∧ S' w' ∧ wpS P rd ops T S' l a' w') d))) (hg : (ops[g]?).bind (·.dst) = some t := by rfl) (hu : look E t = some u := by rfl) (hb2 : wantB u b = true := by rfl) (ht : Nat.blt t N = true := by rfl) (hb : fn.body = some c := by rfl) (ha : Nat.ble args.length N' = true := by rfl) (hn : notDeferOp op = true := by rfl) :
    JD P rd b0 Mk N D ops L V E ((false, { dst := some d, op := op, type := ty, pos := pos, after := after, guard := some (g, b) }) :: l) T := by
  intro a w ha0 hw
  unfold wpS
  rw [if_pos (by simp only [Region.wanted]; rw [yielded_of ha0 hg hu ht]; exact hb2)]
  refine wpIn_enter (notDefer_mk hn) (by rw [execOp_mkO]; exact hc a w ha0 hw) ((calls_inM hw hf hN hb ha h).mono fun e w' he => ?_)
  obtain ⟨v, rfl, hk⟩ := he
  exact ⟨v, rfl, hk a ha0⟩
theorem JX_retI {l : List Oper} {fn : Func} {N' : Nat} {E' : Env} {ops' : Array Oper} {rd' : Option Nat} {D' : List Deferred} {T' : Act → World → Prop} {rs : List ResultVar} {vs : List Value} (hr : fn.results = rs.toArray) (h : Res P L E' rs vs) (k : JL P rd' b0 Mk N D' ops' L ((d, resOf vs) :: E) l T') (hd : Nat.blt d N = true := by rfl) :
    JX b0 Mk N' [] L E' (bodyPost P fn (inK N D' E (wpL P rd' ops' T' l) d)) .ret :=
  fun _ w ha hw => ⟨ha.defs, _, run_results hr h ha hw, _, rfl, fun a' ha' => k _ _ (ha'.put hd _) hw⟩
theorem JX_retID {l : List (Bool × Oper)} {fn : Func} {N' : Nat} {E' : Env} {ops' : Array Oper} {rd' : Option Nat} {D' : List Deferred} {T' : Act → World → Prop} {L0 : Heap} {rs : List ResultVar} {vs : List Value} (L' V' : Heap) (hr : fn.results = rs.toArray) (h : Res P L E' rs vs) (hp : List.Perm L (V' ++ L')) (hs : List.Sublist L0 L')
    (k : JD P rd' b0 Mk N D' ops' L' V' ((d, resOf vs) :: E) l T') (hd : Nat.blt d N = true := by rfl) :
    JX b0 Mk N' [] L E' (bodyPost P fn (inK N D' E (fun a' w' => ∃ S' : World → Prop, (∀ x, S' x → SH b0 Mk L0 x) ∧ S' w' ∧ wpS P rd' ops' T' S' l a' w') d)) .ret :=
  fun _ w ha hw => ⟨ha.defs, _, run_results hr h ha hw, _, rfl, fun a' ha' => ⟨SH b0 Mk L', fun _ hx => hx.sub hs, (hw.perm hp).right, k _ _ (ha'.put hd _) (hw.perm hp)⟩⟩
theorem JX_endI {l : List Oper} {fn : Func} {N' : Nat} {E' : Env} {ops' : Array Oper} {rd' : Option Nat} {D' : List Deferred} {T' : Act → World → Prop} {rs : List ResultVar} {vs : List Value} (hr : fn.results = rs.toArray) (h : Res P L E' rs vs) (k : JL P rd' b0 Mk N D' ops' L ((d, resOf vs) :: E) l T') (hd : Nat.blt d N = true := by rfl) :
    JX b0 Mk N' [] L E' (bodyPost P fn (inK N D' E (wpL P rd' ops' T' l) d)) .normal :=
  fun _ w ha hw => ⟨ha.defs, _, run_results hr h ha hw, _, rfl, fun a' ha' => k _ _ (ha'.put hd _) hw⟩
theorem JX_endID {l : List (Bool × Oper)} {fn : Func} {N' : Nat} {E' : Env} {ops' : Array Oper} {rd' : Option Nat} {D' : List Deferred} {T' : Act → World → Prop} {L0 : Heap} {rs : List ResultVar} {vs : List Value} (L' V' : Heap) (hr : fn.results = rs.toArray) (h : Res P L E' rs vs) (hp : List.Perm L (V' ++ L')) (hs : List.Sublist L0 L')
    (k : JD P rd' b0 Mk N D' ops' L' V' ((d, resOf vs) :: E) l T') (hd : Nat.blt d N = true := by rfl) :
    JX b0 Mk N' [] L E' (bodyPost P fn (inK N D' E (fun a' w' => ∃ S' : World → Prop, (∀ x, S' x → SH b0 Mk L0 x) ∧ S' w' ∧ wpS P rd' ops' T' S' l a' w') d)) .normal :=
  fun _ w ha hw => ⟨ha.defs, _, run_results hr h ha hw, _, rfl, fun a' ha' => ⟨SH b0 Mk L', fun _ hx => hx.sub hs, (hw.perm hp).right, k _ _ (ha'.put hd _) (hw.perm hp)⟩⟩
theorem JX_retIM {l : List Oper} {fn : Func} {N' : Nat} {E' : Env} {ops' : Array Oper} {rd' : Option Nat} {D' : List Deferred} {T' : Act → World → Prop} {rs : List ResultVar} {vs : List Value} {L2 : Heap} (ms : List Nat) (hL : List.Perm L (ms.map (fun r => (r, Obj.deferred (some []))) ++ L2)) (hr : fn.results = rs.toArray) (h : Res P L2 E' rs vs) (k : JL P rd' b0 Mk N D' ops' L2 ((d, resOf vs) :: E) l T') (hd : Nat.blt d N = true := by rfl) :
    JX b0 Mk N' (ms.map markD) L E' (bodyPostM (FW none) 0 P fn (inK N D' E (wpL P rd' ops' T' l) d)) .ret := fun a w ha hw => by
  show LeavesInM _ _ _ _ _ _ a.defers _ _
  rw [ha.defs]
  exact leavesM hr h ha (fun w hw => ⟨_, rfl, fun a' ha' => k _ _ (ha'.put hd _) hw⟩) ms w (hw.perm hL)
theorem JX_endIM {l : List Oper} {fn : Func} {N' : Nat} {E' : Env} {ops' : Array Oper} {rd' : Option Nat} {D' : List Deferred} {T' : Act → World → Prop} {rs : List ResultVar} {vs : List Value} {L2 : Heap} (ms : List Nat) (hL : List.Perm L (ms.map (fun r => (r, Obj.deferred (some []))) ++ L2)) (hr : fn.results = rs.toArray) (h : Res P L2 E' rs vs) (k : JL P rd' b0 Mk N D' ops' L2 ((d, resOf vs) :: E) l T') (hd : Nat.blt d N = true := by rfl) :
    JX b0 Mk N' (ms.map markD) L E' (bodyPostM (FW none) 0 P fn (inK N D' E (wpL P rd' ops' T' l) d)) .normal := fun a w ha hw => by
  show LeavesInM _ _ _ _ _ _ a.defers _ _
  rw [ha.defs]
  exact leavesM hr h ha (fun w hw => ⟨_, rfl, fun a' ha' => k _ _ (ha'.put hd _) hw⟩) ms w (hw.perm hL)

/-! ### operations that are not wanted -/
def skipE (N : Nat) (ops : Array Oper) : List Oper → Nat → Env → Option Env
  | _, 0, E => some E
  | [], _ + 1, _ => none
  | o :: l, n + 1, E => match o.guard, o.dst with
    | some (g, b), some d => match (ops[g]?).bind (·.dst) with
      | some t => match Nat.blt t N && Nat.blt d N, look E t with
        | true, some u => match wantB u b with
          | false => skipE N ops l n ((d, undef) :: E)
          | true => none
        | _, _ => none
      | none => none
    | _, _ => none

theorem JL_skips : ∀ (n : Nat) {l : List Oper} {E E' : Env} (_ : skipE N ops l n E = some E') (_ : JL P rd b0 Mk N D ops L E' (l.drop n) T), JL P rd b0 Mk N D ops L E l T
  | 0, l, E, E', h, k => by
    have h : E = E' := Option.some.inj (by simpa [skipE] using h)
    subst h; exact k
  | n + 1, [], E, E', h, k => by simp [skipE] at h
  | n + 1, o :: l, E, E', h, k => by
    intro a w ha hw
    unfold skipE at h
    split at h
    · rename_i g b d hg hdst
      split at h
      · rename_i t ht
        split at h
        · rename_i u hbl hu
          split at h
          · rename_i hwb
            simp only [Bool.and_eq_true] at hbl
            unfold wpL
            rw [if_neg (by rw [Region.wanted, hg]; simp only; rw [yielded_of ha ht hu hbl.1, hwb]; exact Bool.noConfusion), hdst]
            exact JL_skips n h k _ _ (ha.put hbl.2 _) hw
          · cases h
        · cases h
      · cases h
    · cases h

theorem JD_skips : ∀ (n : Nat) {l : List (Bool × Oper)} {E E' : Env} (_ : skipE N ops (l.map Prod.snd) n E = some E') (_ : JD P rd b0 Mk N D ops L V E' (l.drop n) T), JD P rd b0 Mk N D ops L V E l T
  | 0, l, E, E', h, k => by
    have h : E = E' := Option.some.inj (by simpa [skipE] using h)
    subst h; exact k
  | n + 1, [], E, E', h, k => by simp [skipE] at h
  | n + 1, (f, o) :: l, E, E', h, k => by
    intro a w ha hw
    simp only [List.map_cons] at h
    unfold skipE at h
    split at h
    · rename_i g b d hg hdst
      split at h
      · rename_i t ht
        split at h
        · rename_i u hbl hu
          split at h
          · rename_i hwb
            simp only [Bool.and_eq_true] at hbl
            have hno : Region.wanted o (yielded ops a.tmps) = false := by
              rw [Region.wanted, hg]; simp only; rw [yielded_of ha ht hu hbl.1, hwb]
            have hk := JD_skips n h k _ _ (ha.put hbl.2 undef) hw
            cases f
            · unfold wpS
              rw [if_neg (by rw [hno]; exact Bool.noConfusion), hdst]
              exact hk
            · unfold wpS
              exact ⟨undef, .inr ⟨hno, rfl⟩, by rw [hdst]; exact hk⟩
          · cases h
        · cases h
      · cases h
    · cases h

/-! ### strings -/
abbrev Str := List UInt8
def bs (l : Str) : ByteArray := ⟨l.toArray⟩
theorem bs_size (l : Str) : (bs l).size = l.length := by simp [bs, ByteArray.size]
theorem ba_data (b : ByteArray) : b.toList = b.data.toList := by
  have key : ∀ (n i : Nat) (r : List UInt8), b.size - i = n → ByteArray.toList.loop b i r = r.reverse ++ b.data.toList.drop i := by
    intro n
    induction n with
    | zero =>
      intro i r h
      unfold ByteArray.toList.loop
      rw [if_neg (by omega), List.drop_of_length_le (by have : b.data.size = b.size := rfl; simp; omega)]
      simp
    | succ n ih =>
      intro i r h
      unfold ByteArray.toList.loop
      rw [if_pos (by omega), ih _ _ (by omega)]
      have hlt : i < b.data.toList.length := by have : b.data.size = b.size := rfl; simp; omega
      rw [List.drop_eq_getElem_cons hlt]
      have : b.get! i = b.data.toList[i] := by
        have h2 : i < b.data.size := by simpa using hlt
        rw [ByteArray.get!]
        simp only [Array.getElem_toList]
        exact getElem!_pos b.data i h2
      rw [this]; simp
  have := key b.size 0 [] (by omega)
  simpa [ByteArray.toList] using this
theorem bs_toList (l : Str) : (bs l).toList = l := by rw [ba_data]; simp [bs]
theorem bs_append (l m : Str) : bs l ++ bs m = bs (l ++ m) := by
  apply ByteArray.ext
  simp [bs]
theorem bs_get (l : Str) (i : Nat) : (bs l)[i]? = l[i]? := by
  by_cases h : i < l.length
  · rw [getElem?_pos (bs l) i (by rw [bs_size]; exact h), List.getElem?_eq_getElem h]
    rfl
  · rw [getElem?_neg (bs l) i (by rw [bs_size]; exact h), List.getElem?_eq_none (by omega)]
theorem bs_extract (l : Str) (i j : Nat) : (bs l).extract i j = bs ((l.take j).drop i) := by
  apply ByteArray.ext
  simp [bs, ByteArray.data_extract, List.drop_take]

section ops
variable {t t' : TypeId} {x y z : Operand} {s s' : Str} {p q : Int} {k k' : IntKind}
theorem q_lenT (hU : ∀ w, (underlying t).run P w = .ok .string w) (hx : ev E x = some (.string (bs s)) := by rfl) :
    RunQ P N D b0 Mk L E (.call { callee := .builtin .len, args := #[x], argTypes := #[t] }) ty (.int .i64 s.length) := by
  have := q_lenStr (N := N) (D := D) (b0 := b0) (Mk := Mk) (L := L) (ty := ty) hU hx
  rwa [bs_size] at this
theorem q_idxT (m : Nat) (hU : ∀ w, (underlying t).run P w = .ok .string w) (hm : m < s.length) (hx : ev E x = some (.string (bs s)) := by rfl) (hy : ev E y = some (.int k p) := by rfl) (hi : p = (m : Int) := by first | rfl | omega) :
    RunQ P N D b0 Mk L E (.index t x y) ty (.int .u8 ((s.getD m default).toNat : Int)) := fun a w ha _ => by
  subst hi
  have h1 : (bs s)[m]? = some (s.getD m default) := by rw [bs_get, List.getElem?_eq_getElem hm]; simp [List.getD, hm]
  simp [mkO, execOp, ha.eval hx, ha.eval hy, Instr.index, asIntOf, hU, h1]
theorem q_subT (m n : Nat) (hU : ∀ w, (underlying t).run P w = .ok .string w) (hmn : m ≤ n) (hn : n ≤ s.length) (hx : ev E x = some (.string (bs s)) := by rfl) (hy : ev E y = some (.int k p) := by rfl) (hz : ev E z = some (.int k' q) := by rfl) (hi : p = (m : Int) := by first | rfl | omega) (hj : q = (n : Int) := by first | rfl | omega) :
    RunQ P N D b0 Mk L E (.slice t x (some y) (some z) none) ty (.string (bs ((s.take n).drop m))) := fun a w ha _ => by
  subst hi hj
  have h1 : (n : Int) ≤ ((bs s).size : Int) := by rw [bs_size]; omega
  have h2 : (m : Int) ≤ (n : Int) := by omega
  simp [mkO, execOp, ha.eval hx, ha.eval hy, ha.eval hz, Instr.sliceAt, Instr.slice, Instr.sliceBounds, Instr.sliceBound, asIntOf, hU, bs_size, hn, hmn, bs_extract]
theorem q_subTlo (m : Nat) (hU : ∀ w, (underlying t).run P w = .ok .string w) (hm : m ≤ s.length) (hx : ev E x = some (.string (bs s)) := by rfl) (hy : ev E y = some (.int k p) := by rfl) (hi : p = (m : Int) := by first | rfl | omega) :
    RunQ P N D b0 Mk L E (.slice t x (some y) none none) ty (.string (bs (s.drop m))) := fun a w ha _ => by
  subst hi
  simp [mkO, execOp, ha.eval hx, ha.eval hy, Instr.sliceAt, Instr.slice, Instr.sliceBounds, Instr.sliceBound, asIntOf, hU, bs_size, hm, bs_extract]
theorem q_subThi (n : Nat) (hU : ∀ w, (underlying t).run P w = .ok .string w) (hn : n ≤ s.length) (hx : ev E x = some (.string (bs s)) := by rfl) (hz : ev E z = some (.int k' q) := by rfl) (hj : q = (n : Int) := by first | rfl | omega) :
    RunQ P N D b0 Mk L E (.slice t x none (some z) none) ty (.string (bs (s.take n))) := fun a w ha _ => by
  subst hj
  simp [mkO, execOp, ha.eval hx, ha.eval hz, Instr.sliceAt, Instr.slice, Instr.sliceBounds, Instr.sliceBound, asIntOf, hU, bs_size, hn, bs_extract]
theorem q_addT (hx : ev E x = some (.string (bs s)) := by rfl) (hy : ev E y = some (.string (bs s')) := by rfl) (h : s.length + s'.length ≤ 9223372036854775807 := by omega) :
    RunQ P N D b0 Mk L E (.binOp .add t x y t') ty (.string (bs (s ++ s'))) := fun a w ha _ => by
  have h1 : ¬ (((bs s).size + (bs s').size : Nat) : Int) > IntKind.i64.max := by
    rw [bs_size, bs_size]; show ¬ _ > (9223372036854775807 : Int); omega
  simp only [mkO, execOp, ha.eval hx, ha.eval hy, eqGuard, binOp, Op.stringOp, h1, bs_append]
  simp
theorem q_eqT (hx : ev E x = some (.string (bs s)) := by rfl) (hy : ev E y = some (.string (bs s')) := by rfl) :
    RunQ P N D b0 Mk L E (.binOp .eql t x y t') ty (.bool (decide (s = s'))) := fun a w ha _ => by
  simp only [mkO, execOp, ha.eval hx, ha.eval hy, eqGuard, binOp, Op.stringOp, bs_toList]
  by_cases h : s = s' <;> simp [h]
theorem q_neT (hx : ev E x = some (.string (bs s)) := by rfl) (hy : ev E y = some (.string (bs s')) := by rfl) :
    RunQ P N D b0 Mk L E (.binOp .neq t x y t') ty (.bool (decide (s ≠ s'))) := fun a w ha _ => by
  simp only [mkO, execOp, ha.eval hx, ha.eval hy, eqGuard, binOp, Op.stringOp, bs_toList]
  by_cases h : s = s' <;> simp [h]

/-! ### integers, wrapped -/
theorem wrap_u8 {n : Int} (h : 0 ≤ n ∧ n ≤ 255) : IntKind.u8.wrap n = n := IntWalk.u8_in n h
theorem wrap_u16 {n : Int} (h : 0 ≤ n ∧ n ≤ 65535) : IntKind.u16.wrap n = n := IntWalk.u16_in n h
theorem wrap_u32 {n : Int} (h : 0 ≤ n ∧ n ≤ 4294967295) : IntKind.u32.wrap n = n := IntWalk.u32_in n h
theorem wrap_u64 {n : Int} (h : 0 ≤ n ∧ n ≤ 18446744073709551615) : IntKind.u64.wrap n = n := IntWalk.u64_in n h
theorem wrap_i32 {n : Int} (h : -2147483648 ≤ n ∧ n ≤ 2147483647) : IntKind.i32.wrap n = n := IntWalk.i32_in n h
theorem u8_lt (b : UInt8) : b.toNat < 256 := UInt8.toNat_lt b

def andI (k : IntKind) (a b : Int) : Int := k.wrap ((BitVec.ofInt k.bits a &&& BitVec.ofInt k.bits b).toNat : Int)
def orI (k : IntKind) (a b : Int) : Int := k.wrap ((BitVec.ofInt k.bits a ||| BitVec.ofInt k.bits b).toNat : Int)
def xorI (k : IntKind) (a b : Int) : Int := k.wrap ((BitVec.ofInt k.bits a ^^^ BitVec.ofInt k.bits b).toNat : Int)
def andNotI (k : IntKind) (a b : Int) : Int := k.wrap ((BitVec.ofInt k.bits a &&& ~~~ BitVec.ofInt k.bits b).toNat : Int)
def shlI (k : IntKind) (a : Int) (n : Int) : Int := k.wrap (a * 2 ^ (min n.toNat k.bits))
def shrI (k : IntKind) (a : Int) (n : Int) : Int := a.fdiv (2 ^ (min n.toNat k.bits))
theorem q_addW (hx : ev E x = some (.int k p) := by rfl) (hy : ev E y = some (.int k q) := by rfl) : RunQ P N D b0 Mk L E (.binOp .add t x y t') ty (.int k (k.wrap (p + q))) := fun a w ha _ => by
  simp [mkO, execOp, ha.eval hx, ha.eval hy, eqGuard, binOp, Op.intArith]
theorem q_subW (hx : ev E x = some (.int k p) := by rfl) (hy : ev E y = some (.int k q) := by rfl) : RunQ P N D b0 Mk L E (.binOp .sub t x y t') ty (.int k (k.wrap (p - q))) := fun a w ha _ => by
  simp [mkO, execOp, ha.eval hx, ha.eval hy, eqGuard, binOp, Op.intArith]
theorem q_mulW (hx : ev E x = some (.int k p) := by rfl) (hy : ev E y = some (.int k q) := by rfl) : RunQ P N D b0 Mk L E (.binOp .mul t x y t') ty (.int k (k.wrap (p * q))) := fun a w ha _ => by
  simp [mkO, execOp, ha.eval hx, ha.eval hy, eqGuard, binOp, Op.intArith]
theorem q_andW (hx : ev E x = some (.int k p) := by rfl) (hy : ev E y = some (.int k q) := by rfl) : RunQ P N D b0 Mk L E (.binOp .and t x y t') ty (.int k (andI k p q)) := fun a w ha _ => by
  simp [mkO, execOp, ha.eval hx, ha.eval hy, eqGuard, binOp, Op.intBits, andI]
theorem q_orW (hx : ev E x = some (.int k p) := by rfl) (hy : ev E y = some (.int k q) := by rfl) : RunQ P N D b0 Mk L E (.binOp .or t x y t') ty (.int k (orI k p q)) := fun a w ha _ => by
  simp [mkO, execOp, ha.eval hx, ha.eval hy, eqGuard, binOp, Op.intBits, orI]
theorem q_xorW (hx : ev E x = some (.int k p) := by rfl) (hy : ev E y = some (.int k q) := by rfl) : RunQ P N D b0 Mk L E (.binOp .xor t x y t') ty (.int k (xorI k p q)) := fun a w ha _ => by
  simp [mkO, execOp, ha.eval hx, ha.eval hy, eqGuard, binOp, Op.intBits, xorI]
theorem q_andNotW (hx : ev E x = some (.int k p) := by rfl) (hy : ev E y = some (.int k q) := by rfl) : RunQ P N D b0 Mk L E (.binOp .andNot t x y t') ty (.int k (andNotI k p q)) := fun a w ha _ => by
  simp [mkO, execOp, ha.eval hx, ha.eval hy, eqGuard, binOp, Op.intBits, andNotI]
theorem q_shlW (hx : ev E x = some (.int k p) := by rfl) (hy : ev E y = some (.int k' q) := by rfl) (h : 0 ≤ q := by omega) : RunQ P N D b0 Mk L E (.binOp .shl t x y t') ty (.int k (shlI k p q)) := fun a w ha _ => by
  have h' : ¬ q < 0 := by omega
  simp [mkO, execOp, ha.eval hx, ha.eval hy, eqGuard, binOp, Op.shift, h', shlI]
theorem q_shrW (hx : ev E x = some (.int k p) := by rfl) (hy : ev E y = some (.int k' q) := by rfl) (h : 0 ≤ q := by omega) : RunQ P N D b0 Mk L E (.binOp .shr t x y t') ty (.int k (shrI k p q)) := fun a w ha _ => by
  have h' : ¬ q < 0 := by omega
  simp [mkO, execOp, ha.eval hx, ha.eval hy, eqGuard, binOp, Op.shift, h', shrI]
theorem q_quo (hx : ev E x = some (.int .i64 p) := by rfl) (hy : ev E y = some (.int .i64 q) := by rfl) (h : 0 ≤ p ∧ p ≤ 9223372036854775807 ∧ 1 ≤ q := by omega) : RunQ P N D b0 Mk L E (.binOp .quo t x y t') ty (.int .i64 (p / q)) := fun a w ha _ => by
  have h1 : ¬ q = 0 := by omega
  have h2 : p.tdiv q = p / q := Int.tdiv_eq_ediv_of_nonneg h.1
  have h3 : IntKind.i64.wrap (p / q) = p / q := wrap_i64 ⟨by have := Int.ediv_nonneg h.1 (show 0 ≤ q by omega); omega, by have := Int.ediv_le_self q h.1; omega⟩
  simp [mkO, execOp, ha.eval hx, ha.eval hy, eqGuard, binOp, Op.intDiv, h1, h2, h3]
theorem q_rem (hx : ev E x = some (.int .i64 p) := by rfl) (hy : ev E y = some (.int .i64 q) := by rfl) (h : 0 ≤ p ∧ 1 ≤ q := by omega) : RunQ P N D b0 Mk L E (.binOp .rem t x y t') ty (.int .i64 (p % q)) := fun a w ha _ => by
  have h1 : ¬ q = 0 := by omega
  have h2 : p.tmod q = p % q := Int.tmod_eq_emod_of_nonneg h.1
  simp [mkO, execOp, ha.eval hx, ha.eval hy, eqGuard, binOp, Op.intDiv, h1, h2]
theorem q_remW (hx : ev E x = some (.int k p) := by rfl) (hy : ev E y = some (.int k q) := by rfl) (h : q ≠ 0 := by omega) : RunQ P N D b0 Mk L E (.binOp .rem t x y t') ty (.int k (p.tmod q)) := fun a w ha _ => by
  simp [mkO, execOp, ha.eval hx, ha.eval hy, eqGuard, binOp, Op.intDiv, h]
theorem q_conv {dst : TypeId} {desc : TypeDesc} {r : Int} (h : k'.wrap p = r) (hU : ∀ w, (underlying t).run P w = .ok desc w) (hV : ∀ w, (underlying dst).run P w = .ok (.int k') w) (hx : ev E x = some (.int k p) := by rfl) :
    RunQ P N D b0 Mk L E (.convert t dst x) ty (.int k' r) := fun a w ha _ => by
  subst h
  simp [mkO, execOp, ha.eval hx, convert, hU, hV, Conv.intToInt]
theorem q_max (hx : ev E x = some (.int .i64 p) := by rfl) (hy : ev E y = some (.int .i64 q) := by rfl) {tys : Array TypeId} :
    RunQ P N D b0 Mk L E (.call { callee := .builtin .max, args := #[x, y], argTypes := tys }) ty (.int .i64 (if p < q then q else p)) := fun ac w ha _ => by
  simp [mkO, execOp, resolve, invoke, builtin, Builtin.max_, ha.eval hx, ha.eval hy, Builtin.max2]

/-! ### arrays -/
theorem q_idxA {e len : TypeId} {l : List Value} {m : Nat} {v : Value} (hU : ∀ w, (underlying t).run P w = .ok (.array len e) w) (hS : ∀ w, (sizeOf e).run P w = .ok 1 w) (hA : ∀ w, (isAgg e).run P w = .ok false w) (hx : ev E x = some (.agg l.toArray) := by rfl) (hy : ev E y = some (.int k p) := by rfl) (hi : p = (m : Int) := by rfl) (hm : Nat.blt m len = true := by rfl) (hv : nth l m = some v := by rfl) :
    RunQ P N D b0 Mk L E (.index t x y) ty v := fun a w ha _ => by
  subst hi
  have hm' : m < len := by simpa [Nat.blt_eq] using hm
  rw [nth_eq] at hv
  simp [mkO, execOp, ha.eval hx, ha.eval hy, Instr.index, asIntOf, hU, hS, hm', part, hA, hv]
theorem q_idxP {e len n : TypeId} {r o m : Nat} (hU : ∀ w, (underlying t).run P w = .ok (.array len e) w) (hS : ∀ w, (sizeOf e).run P w = .ok n w) (hx : ev E x = some (.pointer (some ⟨r, o, none⟩)) := by rfl) (hy : ev E y = some (.int k p) := by rfl) (hi : p = (m : Int) := by first | rfl | omega) (hm : m < len := by first | decide | omega) :
    RunQ P N D b0 Mk L E (.indexAddr t x y) ty (.pointer (some ⟨r, o + m * n, none⟩)) := fun a w ha _ => by
  subst hi
  have hm2 : (m : Int) < (len : Int) := by omega
  simp [mkO, execOp, ha.eval hx, ha.eval hy, Instr.indexAt, asIntOf, hU, hS, Instr.sureAddr, hm, addr_add]

/-! ### a string's runes -/
def dec (s : Str) (i : Nat) : Nat × Nat := Utf8.decode (bs s) i
theorem dec_pos (s : Str) (i : Nat) : 1 ≤ (dec s i).2 := by
  unfold dec Utf8.decode
  simp only
  repeat' split
  all_goals simp
theorem a_rangeT (hU : ∀ w, (underlying t).run P w = .ok .string w) (hx : ev E x = some (.string (bs s)) := by rfl) : RunA P N D b0 Mk L E (.range t x) ty (.stringIter (bs s) 0) (fun r => .pointer (some ⟨r, 0, none⟩)) := fun a w ha _ => by
  simp [mkO, execOp, ha.eval hx, Instr.range, hU, newObj, Sem.run]
theorem run_getObj_it {w : World} {r i : Nat} {b : ByteArray} (h : w.heap[r]? = some (.stringIter b i)) : (getObj r).run P w = .ok (.stringIter b i) w := by simp [getObj, Sem.run, h]
theorem run_setObj_it {w : World} {r i : Nat} {b : ByteArray} {o' : Obj} (h : w.heap[r]? = some (.stringIter b i)) : (setObj r o').run P w = .ok () (w.putObj r o') := by simp [setObj, Sem.run, h, World.putObj]
theorem q_next0 {r i : Nat} (hi : ¬ i < s.length) (hx : ev E x = some (.pointer (some ⟨r, 0, none⟩)) := by rfl) (hm : (r, Obj.stringIter (bs s) i) ∈ L := by repeat (first | exact List.mem_cons_self | apply List.mem_cons_of_mem | apply List.mem_append_right)) :
    RunQ P N D b0 Mk L E (.next x true) ty (.tuple [.bool false].toArray) := fun a w ha hw => by
  simp [mkO, execOp, ha.eval hx, Instr.next, run_getObj_it (hw.own _ hm), bs_size, hi]
theorem JL_next {l : List Oper} {R : Heap} {r i : Nat} (hL : List.Perm L ((r, Obj.stringIter (bs s) i) :: R)) (h1 : i < s.length → JL P rd b0 Mk N D ops ((r, Obj.stringIter (bs s) (i + (dec s i).2)) :: R) ((d, .tuple [.bool true, .int .i64 (i : Int), .int .i32 ((dec s i).1 : Int)].toArray) :: E) l T)
    (h0 : ¬ i < s.length → JL P rd b0 Mk N D ops ((r, Obj.stringIter (bs s) i) :: R) ((d, .tuple [.bool false].toArray) :: E) l T) (hx : ev E x = some (.pointer (some ⟨r, 0, none⟩)) := by rfl) (hd : Nat.blt d N = true := by rfl) :
    JL P rd b0 Mk N D ops L E ({ dst := some d, op := .next x true, type := ty, pos := pos, after := after, guard := none } :: l) T := by
  intro a w ha hw
  have hw2 := hw.perm hL
  have ho := hw2.own _ List.mem_cons_self
  simp only at ho
  unfold wpL
  rw [if_pos (by rfl)]
  by_cases hi : i < s.length
  · refine wpIn_value (notDefer_mk rfl) (v := .tuple [.bool true, .int .i64 (i : Int), .int .i32 ((dec s i).1 : Int)].toArray) (w' := w.putObj r (Obj.stringIter (bs s) (i + (dec s i).2))) ?_ (h1 hi _ _ (ha.put hd _) (SH.put hw2))
    rw [execOp_mkO]
    simp [mkO, execOp, ha.eval hx, Instr.next, run_getObj_it ho, bs_size, hi, run_setObj_it ho, dec, goInt]
  · refine wpIn_value (notDefer_mk rfl) (v := .tuple [.bool false].toArray) (w' := w) ?_ (h0 hi _ _ (ha.put hd _) hw2)
    rw [execOp_mkO]
    simp [mkO, execOp, ha.eval hx, Instr.next, run_getObj_it ho, bs_size, hi]
end ops
end
end Go.Proofs.YtodejmindmiknaaDoor.Jd
