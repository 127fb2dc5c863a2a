/- Part of the proofs of this seat: walks and plain facts. No condition. -/
import Derived.Test.YtofkflecgnmemaaJSB
namespace Go.Proofs.Ytofkflecgnmemaa.Jd
open Go.Proofs
open Go.RowKit (Below)
set_option maxRecDepth 100000
set_option linter.unusedVariables false
set_option linter.unusedSimpArgs false
def rOwn (s : (List Int × List Bool × List Int)) : (List Int × List Bool × List Int) := (run3 (s.1, s.2.1, s.2.2) (fun x_1 x_2 x_3 => (x_1, x_2, x_3)))
def rNew_l0 (n_ : Int) (x_1 : List Int) (x_2 : List Bool) : Nat → Int → List Int → Int × (List Int)
  | 0, i_4, x_5 => (i_4, x_5)
  | n_6 + 1, i_4, x_5 => (if 0 ≤ i_4 then (rNew_l0 n_ x_1 x_2 n_6 (i_4 - 1) (x_5 ++ ([i_4] : List Int))) else (i_4, x_5))
def rNew (n_ : Int) : (List Int × List Bool × List Int) × Int := (if n_ < 1 then (([], [], []), 2) else (if 64 < n_ then (([], [], []), 2) else (run2 ((List.replicate ((n_).toNat) (default : Int)), (List.replicate ((n_).toNat) (default : Bool))) (fun x_1 x_2 => (run2 (rNew_l0 n_ x_1 x_2 (((n_ - 1) + 1).toNat + 1) (n_ - 1) []) (fun i_4 x_5 => ((x_1, x_2, x_5), 0)))))))
def rValid (s : (List Int × List Bool × List Int)) (h : (Int × Int)) : Bool := (if (rRight s) = true then (if 0 ≤ h.1 then (if h.1 < ((s.1.length : Nat) : Int) then (if (s.2.1.getD ((h.1).toNat) default) = true then decide ((s.1.getD ((h.1).toNat) default) = h.2) else false) else false) else false) else false)
def rAll_l0 (s : (List Int × List Bool × List Int)) : Nat → List (Int × Int) → Nat → (List (Int × Int)) × Nat
  | 0, out_1, i_2 => (out_1, i_2)
  | n_3 + 1, out_1, i_2 => (if ((i_2 : Nat) : Int) < ((s.1.length : Nat) : Int) then (if (rRight s) = true then (if (s.2.1.getD i_2 default) = true then (rAll_l0 s n_3 (out_1 ++ ([(((i_2 : Nat) : Int), (s.1.getD i_2 default))] : List (Int × Int))) (i_2 + 1)) else (rAll_l0 s n_3 out_1 (i_2 + 1))) else (out_1, i_2)) else (out_1, i_2))
def rAll (s : (List Int × List Bool × List Int)) : List (Int × Int) := (run2 (rAll_l0 s (s.1.length + 1) [] 0) (fun out_1 i_2 => out_1))
def rTake (s : (List Int × List Bool × List Int)) : (List Int × List Bool × List Int) × (Int × Int) × Int := (if (!(rRight s)) = true then (([], [], []), (0, 0), 90) else (if (((s.2.2.length : Nat) : Int) - 1) < 0 then (([], [], []), (0, 0), 92) else (if (s.1.getD (((s.2.2.getD (((((s.2.2.length : Nat) : Int) - 1)).toNat) default)).toNat) default) = 1000000000 then (([], [], []), (0, 0), 92) else (((((s).1).set (((((s).2.2).getD (((((s.2.2.length : Nat) : Int) - 1)).toNat) default)).toNat) ((((s).1).getD (((((s).2.2).getD (((((s.2.2.length : Nat) : Int) - 1)).toNat) default)).toNat) default) + 1)), (((s).2.1).set (((((s).2.2).getD (((((s.2.2.length : Nat) : Int) - 1)).toNat) default)).toNat) true), (((s).2.2).take (((((s.2.2.length : Nat) : Int) - 1)).toNat))), ((((s).2.2).getD (((((s.2.2.length : Nat) : Int) - 1)).toNat) default), ((((s).1).set (((((s).2.2).getD (((((s.2.2.length : Nat) : Int) - 1)).toNat) default)).toNat) ((((s).1).getD (((((s).2.2).getD (((((s.2.2.length : Nat) : Int) - 1)).toNat) default)).toNat) default) + 1)).getD (((((s).2.2).getD (((((s.2.2.length : Nat) : Int) - 1)).toNat) default)).toNat) default)), 0))))
def rGive (s : (List Int × List Bool × List Int)) (h : (Int × Int)) : (List Int × List Bool × List Int) × Int := (if (!(rRight s)) = true then (([], [], []), 90) else (if (!(rValid s h)) = true then (([], [], []), 91) else ((((s).1), (((s).2.1).set ((h.1).toNat) false), (((s).2.2) ++ ([h.1] : List Int))), 0)))
end Go.Proofs.Ytofkflecgnmemaa.Jd
