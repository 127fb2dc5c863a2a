/- Part of the proofs of this seat: walks and plain facts. No condition. -/
import Derived.Test.YtodejmindmiknaaDoorJMM
namespace Go.Proofs.YtodejmindmiknaaDoor.Jd
open Go.Proofs
open Go.RowKit (Below)
set_option maxRecDepth 100000
set_option linter.unusedVariables false
set_option linter.unusedSimpArgs false
def sHex_l0 (s : Str) : Nat → Nat → Bool → List Int → Nat × Bool × (List Int)
  | 0, x_1, x_2, x_3 => (x_1, x_2, x_3)
  | n_4 + 1, x_1, x_2, x_3 => (if ((x_1 : Nat) : Int) < ((((toI s).length) : Nat) : Int) then (if (!x_2) = true then (sHex_l0 s n_4 (x_1 + 1) true ((x_3 ++ ([(((([48, 49, 50, 51, 52, 53, 54, 55, 56, 57, 97, 98, 99, 100, 101, 102] : Str).getD (((shrI .u8 ((toI s).getD x_1 default) 4)).toNat) default).toNat : Nat) : Int)] : List Int)) ++ ([(((([48, 49, 50, 51, 52, 53, 54, 55, 56, 57, 97, 98, 99, 100, 101, 102] : Str).getD (((andI .u8 ((toI s).getD x_1 default) 15)).toNat) default).toNat : Nat) : Int)] : List Int))) else (if (!x_2) = true then (sHex_l0 s n_4 (x_1 + 1) true ((x_3 ++ ([(((([48, 49, 50, 51, 52, 53, 54, 55, 56, 57, 97, 98, 99, 100, 101, 102] : Str).getD (((shrI .u8 ((toI s).getD x_1 default) 4)).toNat) default).toNat : Nat) : Int)] : List Int)) ++ ([(((([48, 49, 50, 51, 52, 53, 54, 55, 56, 57, 97, 98, 99, 100, 101, 102] : Str).getD (((andI .u8 ((toI s).getD x_1 default) 15)).toNat) default).toNat : Nat) : Int)] : List Int))) else (sHex_l0 s n_4 (x_1 + 1) x_2 ((x_3 ++ ([(((([48, 49, 50, 51, 52, 53, 54, 55, 56, 57, 97, 98, 99, 100, 101, 102] : Str).getD (((shrI .u8 ((toI s).getD x_1 default) 4)).toNat) default).toNat : Nat) : Int)] : List Int)) ++ ([(((([48, 49, 50, 51, 52, 53, 54, 55, 56, 57, 97, 98, 99, 100, 101, 102] : Str).getD (((andI .u8 ((toI s).getD x_1 default) 15)).toNat) default).toNat : Nat) : Int)] : List Int))))) else (x_1, x_2, x_3))
def sHex (s : Str) : Str := (run3 (sHex_l0 s (((toI s).length) + 1) 0 false []) (fun x_1 x_2 x_3 => (toS x_3)))
end Go.Proofs.YtodejmindmiknaaDoor.Jd
