/- Part of the proofs of this seat: walks and plain facts. No condition. -/
import Derived.Test.YtnnafnjdngjkoaaDoorJ15
namespace Go.Proofs.YtnnafnjdngjkoaaDoor.Jd
open Go.Proofs
open Go.RowKit (Below)
set_option maxRecDepth 100000
set_option linter.unusedVariables false
set_option linter.unusedSimpArgs false
structure Prefix where
  addr : Int
  bits : Int
instance : Inhabited Prefix := ⟨⟨default, default⟩⟩
instance : DecidableEq Prefix := fun a b => decidable_of_iff (a.addr = b.addr ∧ a.bits = b.bits) ⟨fun h => by cases a; cases b; simp_all, fun h => by subst h; simp⟩
def rIsAddr (a : Int) : Bool := (if 0 ≤ a then decide (a ≤ 4294967295) else false)
def isAddr (a : Int) : Bool := (if 0 ≤ a then decide (a ≤ 4294967295) else false)
def rSize (bits : Int) : Int := (shlI .i64 1 (32 - bits))
def rRight (p : Prefix) : Bool := (if 0 ≤ p.bits then (if p.bits ≤ 32 then (if (rIsAddr p.addr) = true then decide ((p.addr % (rSize p.bits)) = 0) else false) else false) else false)
def rHas (p : Prefix) (a : Int) : Bool := (if (rRight p) = true then (if (rIsAddr a) = true then (if p.addr ≤ a then decide (a < (p.addr + (rSize p.bits))) else false) else false) else false)
def rIn (p : Prefix) (q : Prefix) : Bool := (if (rRight p) = true then (if (rRight q) = true then (if q.bits ≤ p.bits then (rHas q p.addr) else false) else false) else false)
def rEnds (p : Prefix) : Int × Int × Int := (if (!(rRight p)) = true then (0, 0, 61) else (p.addr, ((p.addr + (rSize p.bits)) - 1), 0))
def rOf (a : Int) (bits : Int) : Prefix × Int := (if (!(rIsAddr a)) = true then ((Prefix.mk 0 0), 60) else (if bits < 0 then ((Prefix.mk 0 0), 61) else (if 32 < bits then ((Prefix.mk 0 0), 61) else ((Prefix.mk (a - (a % (rSize bits))) bits), 0))))
def aRest (p : Prefix) : Int := ((shlI .i64 1 (32 - p.bits)) - 1)
def aShort (p : Prefix) : Bool := (if 0 ≤ p.bits then (if p.bits ≤ 32 then (isAddr p.addr) else false) else false)
def aEven (p : Prefix) : Bool := decide ((andI .i64 p.addr (aRest p)) = 0)
def aRight (p : Prefix) : Bool := (if (!(aShort p)) = true then false else (if (!(aEven p)) = true then false else true))
def aHas (p : Prefix) (a : Int) : Bool := (if (aRight p) = true then (if (isAddr a) = true then decide ((andNotI .i64 a (aRest p)) = p.addr) else false) else false)
def aIn (p : Prefix) (q : Prefix) : Bool := (if p.addr = q.addr ∧ p.bits = q.bits then (if (aRight p) = true then true else (if (aRight p) = true then (if q.bits < p.bits then (aHas q p.addr) else false) else false)) else (if (aRight p) = true then (if q.bits < p.bits then (aHas q p.addr) else false) else false))
def aEnds (p : Prefix) : Int × Int × Int := (if (!(aRight p)) = true then (0, 0, 61) else (p.addr, (orI .i64 p.addr (aRest p)), 0))
def aOf (a : Int) (n_ : Int) : Prefix × Int := (if (!(isAddr a)) = true then ((Prefix.mk 0 0), 60) else (if n_ < 0 then ((Prefix.mk 0 0), 61) else (if 32 < n_ then ((Prefix.mk 0 0), 61) else ((Prefix.mk (andNotI .i64 a (aRest (Prefix.mk a n_))) n_), 0))))
def aPrint (a : Int) : Str × Int := (if (!(isAddr a)) = true then (([] : Str), 60) else ((Lib.join (((([(Lib.itoa (andI .i64 (shrI .i64 a 24) 255))] : List Str) ++ ([(Lib.itoa (andI .i64 (shrI .i64 a 16) 255))] : List Str)) ++ ([(Lib.itoa (andI .i64 (shrI .i64 a 8) 255))] : List Str)) ++ ([(Lib.itoa (andI .i64 (shrI .i64 a 0) 255))] : List Str)) ([46] : Str)), 0))
def aNumber_l0 (t : Str) (most : Int) : Nat → Int → Nat → Except (Int × Bool) (Int × Nat)
  | 0, n_1, x_2 => .ok (n_1, x_2)
  | n_3 + 1, n_1, x_2 => (if x_2 < t.length then (if (((dec t x_2).1 : Nat) : Int) < 48 then .error (0, false) else (if 57 < (((dec t x_2).1 : Nat) : Int) then .error (0, false) else (if most < n_1 then .error (0, false) else (aNumber_l0 t most n_3 ((n_1 * 10) + ((((dec t x_2).1 : Nat) : Int) - 48)) (x_2 + (dec t x_2).2))))) else .ok (n_1, x_2))
def aNumber (t : Str) (most : Int) : Int × Bool := (outc2 (aNumber_l0 t most (t.length + 1) 0 0) (fun r => r) (fun n_1 x_2 => (if n_1 ≤ most then (n_1, decide ((Lib.itoa n_1) = t)) else (n_1, false))))
def aParse (s : Str) : Int × Int := (if ((aNumber ((Lib.cut s ([46] : Str)).1) 255).2) = true then (if (!((Lib.cut s ([46] : Str)).2.2 == true)) = true then (0, 60) else (if ((aNumber ((Lib.cut ((Lib.cut s ([46] : Str)).2.1) ([46] : Str)).1) 255).2) = true then (if (!((Lib.cut ((Lib.cut s ([46] : Str)).2.1) ([46] : Str)).2.2 == true)) = true then (0, 60) else (if ((aNumber ((Lib.cut ((Lib.cut ((Lib.cut s ([46] : Str)).2.1) ([46] : Str)).2.1) ([46] : Str)).1) 255).2) = true then (if (!((Lib.cut ((Lib.cut ((Lib.cut s ([46] : Str)).2.1) ([46] : Str)).2.1) ([46] : Str)).2.2 == true)) = true then (0, 60) else (if ((aNumber ((Lib.cut ((Lib.cut ((Lib.cut ((Lib.cut s ([46] : Str)).2.1) ([46] : Str)).2.1) ([46] : Str)).2.1) ([46] : Str)).1) 255).2) = true then (if (!((Lib.cut ((Lib.cut ((Lib.cut ((Lib.cut s ([46] : Str)).2.1) ([46] : Str)).2.1) ([46] : Str)).2.1) ([46] : Str)).2.2 == false)) = true then (0, 60) else ((orI .i64 (shlI .i64 (orI .i64 (shlI .i64 (orI .i64 (shlI .i64 (orI .i64 (shlI .i64 0 8) ((aNumber ((Lib.cut s ([46] : Str)).1) 255).1)) 8) ((aNumber ((Lib.cut ((Lib.cut s ([46] : Str)).2.1) ([46] : Str)).1) 255).1)) 8) ((aNumber ((Lib.cut ((Lib.cut ((Lib.cut s ([46] : Str)).2.1) ([46] : Str)).2.1) ([46] : Str)).1) 255).1)) 8) ((aNumber ((Lib.cut ((Lib.cut ((Lib.cut ((Lib.cut s ([46] : Str)).2.1) ([46] : Str)).2.1) ([46] : Str)).2.1) ([46] : Str)).1) 255).1)), 0)) else (0, 60))) else (0, 60))) else (0, 60))) else (0, 60))
def aPrintPrefix (p : Prefix) : Str × Int := (if (!(aRight p)) = true then (([] : Str), 61) else (((((aPrint p.addr).1) ++ ([47] : Str)) ++ (Lib.itoa p.bits)), 0))
def aParsePrefix (s : Str) : Prefix × Int := (if (!((aNumber ((Lib.cut s ([47] : Str)).2.1) 32).2)) = true then ((Prefix.mk 0 0), 61) else (if ((aParse ((Lib.cut s ([47] : Str)).1)).2) ≠ 0 then ((Prefix.mk 0 0), 61) else (if (!(aRight (Prefix.mk ((aParse ((Lib.cut s ([47] : Str)).1)).1) ((aNumber ((Lib.cut s ([47] : Str)).2.1) 32).1)))) = true then ((Prefix.mk 0 0), 61) else ((Prefix.mk ((aParse ((Lib.cut s ([47] : Str)).1)).1) ((aNumber ((Lib.cut s ([47] : Str)).2.1) 32).1)), 0))))
def rCut_l0 (s : Str) (c : Int) : Nat → Nat → Except (Str × Str × Bool) Nat
  | 0, i_1 => .ok (i_1)
  | n_2 + 1, i_1 => (if ((i_1 : Nat) : Int) < ((s.length : Nat) : Int) then (if (((s.getD i_1 default).toNat : Nat) : Int) = c then .error ((s.take i_1), (s.drop (i_1 + 1)), true) else (rCut_l0 s c n_2 (i_1 + 1))) else .ok (i_1))
def rCut (s : Str) (c : Int) : Str × Str × Bool := (outc1 (rCut_l0 s c (s.length + 1) 0) (fun r => r) (fun i_1 => (s, ([] : Str), false)))
def rNumber_l0 (s : Str) (most : Int) : Nat → Int → Nat → Except (Int × Bool) (Int × Nat)
  | 0, n_1, i_2 => .ok (n_1, i_2)
  | n_3 + 1, n_1, i_2 => (if ((i_2 : Nat) : Int) < ((s.length : Nat) : Int) then (if (((s.getD i_2 default).toNat : Nat) : Int) < 48 then .error (0, false) else (if 57 < (((s.getD i_2 default).toNat : Nat) : Int) then .error (0, false) else (if most < n_1 then .error (0, false) else (rNumber_l0 s most n_3 ((10 * n_1) + ((((s.getD i_2 default).toNat : Nat) : Int) - 48)) (i_2 + 1))))) else .ok (n_1, i_2))
def rNumber (s : Str) (most : Int) : Int × Bool := (outc2 (rNumber_l0 s most (s.length + 1) 0 0) (fun r => r) (fun n_1 i_2 => (if n_1 ≤ most then (n_1, decide ((Lib.itoa n_1) = s)) else (n_1, false))))
def rPrint (a : Int) : Str × Int := (if (!(rIsAddr a)) = true then (([] : Str), 60) else ((((((((Lib.itoa (a / 16777216)) ++ ([46] : Str)) ++ (Lib.itoa ((a / 65536) % 256))) ++ ([46] : Str)) ++ (Lib.itoa ((a / 256) % 256))) ++ ([46] : Str)) ++ (Lib.itoa (a % 256))), 0))
def rParse (s : Str) : Int × Int := (if (!((rNumber ((rCut s 46).1) 255).2)) = true then (0, 60) else (if (!(((rCut s 46).2.2) == true)) = true then (0, 60) else (if (!((rNumber ((rCut ((rCut s 46).2.1) 46).1) 255).2)) = true then (0, 60) else (if (!(((rCut ((rCut s 46).2.1) 46).2.2) == true)) = true then (0, 60) else (if (!((rNumber ((rCut ((rCut ((rCut s 46).2.1) 46).2.1) 46).1) 255).2)) = true then (0, 60) else (if (!(((rCut ((rCut ((rCut s 46).2.1) 46).2.1) 46).2.2) == true)) = true then (0, 60) else (if (!((rNumber ((rCut ((rCut ((rCut ((rCut s 46).2.1) 46).2.1) 46).2.1) 46).1) 255).2)) = true then (0, 60) else (if (!(((rCut ((rCut ((rCut ((rCut s 46).2.1) 46).2.1) 46).2.1) 46).2.2) == false)) = true then (0, 60) else (((256 * ((256 * ((256 * (0 + ((rNumber ((rCut s 46).1) 255).1))) + ((rNumber ((rCut ((rCut s 46).2.1) 46).1) 255).1))) + ((rNumber ((rCut ((rCut ((rCut s 46).2.1) 46).2.1) 46).1) 255).1))) + ((rNumber ((rCut ((rCut ((rCut ((rCut s 46).2.1) 46).2.1) 46).2.1) 46).1) 255).1)), 0)))))))))
def rPrintPrefix (p : Prefix) : Str × Int := (if (!(rRight p)) = true then (([] : Str), 61) else (((((rPrint p.addr).1) ++ ([47] : Str)) ++ (Lib.itoa p.bits)), 0))
def rParsePrefix (s : Str) : Prefix × Int := (if (!((rCut s 47).2.2)) = true then ((Prefix.mk 0 0), 61) else (if ((rParse ((rCut s 47).1)).2) ≠ 0 then ((Prefix.mk 0 0), 61) else (if (!((rNumber ((rCut s 47).2.1) 32).2)) = true then ((Prefix.mk 0 0), 61) else (if (!(rRight (Prefix.mk ((rParse ((rCut s 47).1)).1) ((rNumber ((rCut s 47).2.1) 32).1)))) = true then ((Prefix.mk 0 0), 61) else ((Prefix.mk ((rParse ((rCut s 47).1)).1) ((rNumber ((rCut s 47).2.1) 32).1)), 0)))))
end Go.Proofs.YtnnafnjdngjkoaaDoor.Jd
