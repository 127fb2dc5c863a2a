/- Part of the proofs of this seat: walks and plain facts. No condition. -/
import Derived.Test.YtodejmindmiknaaDoorJUM
import Derived.Test.YtodejmindmiknaaDoorJMM
namespace Go.Proofs.YtodejmindmiknaaDoor.Jd
open Go.Proofs
open Go.RowKit (Below)
set_option maxRecDepth 100000
set_option linter.unusedVariables false
set_option linter.unusedSimpArgs false
def rmRight (key : Str) : Bool := (if 1 ≤ ((key.length : Nat) : Int) then decide (((key.length : Nat) : Int) ≤ 64) else false)
def rPad_l0 (key : Str) (b : Int) : Nat → List Int → Nat → (List Int) × Nat
  | 0, out_1, i_2 => (out_1, i_2)
  | n_3 + 1, out_1, i_2 => (if ((i_2 : Nat) : Int) < 64 then (if ((i_2 : Nat) : Int) < ((key.length : Nat) : Int) then (rPad_l0 key b n_3 (out_1 ++ ([(xorI .u8 (((key.getD i_2 default).toNat : Nat) : Int) b)] : List Int)) (i_2 + 1)) else (rPad_l0 key b n_3 (out_1 ++ ([(xorI .u8 0 b)] : List Int)) (i_2 + 1))) else (out_1, i_2))
def rPad (key : Str) (b : Int) : Str := (run2 (rPad_l0 key b (64 + 1) [] 0) (fun out_1 i_2 => (toS out_1)))
def rMacOf (key : Str) (s : Str) : Str × Int := (if (!(rmRight key)) = true then (([] : Str), 50) else ((rsSum ((rPad key 92) ++ (rsSum ((rPad key 54) ++ s)))), 0))
def rChal (a : Int) (b : Int) : Str × Int := (if a < 0 then (([] : Str), 2) else (if 2147483647 < a then (([] : Str), 2) else (if b < 0 then (([] : Str), 2) else (if 2147483647 < b then (([] : Str), 2) else ((rsSum (((([99, 104, 97, 108, 108, 101, 110, 103, 101, 32] : Str) ++ (Lib.itoa a)) ++ ([32] : Str)) ++ (Lib.itoa b))), 0)))))
def rAns (key : Str) (challenge : Str) (name : Str) : Str × Int := (if (!(rmRight key)) = true then (([] : Str), 50) else (if ((challenge.length : Nat) : Int) ≠ 32 then (([] : Str), 2) else (((rMacOf key (challenge ++ name)).1), ((rMacOf key (challenge ++ name)).2))))
end Go.Proofs.YtodejmindmiknaaDoor.Jd
