/- Part of the proofs of this seat: walks and plain facts. No condition. -/
import Derived.Test.YtodejmindmiknaaDoorJSM
namespace Go.Proofs.YtodejmindmiknaaDoor.Jd
open Go.Proofs
open Go.RowKit (Below)
set_option maxRecDepth 100000
set_option linter.unusedVariables false
set_option linter.unusedSimpArgs false
def mRight (key : Str) : Bool := (if 1 ≤ ((key.length : Nat) : Int) then decide (((key.length : Nat) : Int) ≤ 64) else false)
def mMac_l1 (key : Str) (l : List Str) (x_1 : Nat) (x_2 : List Int) : Nat → Nat → List Int → Nat × (List Int)
  | 0, x_9, x_10 => (x_9, x_10)
  | n_11 + 1, x_9, x_10 => (if ((x_9 : Nat) : Int) < 64 then (mMac_l1 key l x_1 x_2 n_11 (x_9 + 1) (x_10 ++ ([(xorI .u8 ((toI (key.take 64) ++ (List.replicate 64 (0 : Int)).drop key.length).getD x_9 default) 92)] : List Int))) else (x_9, x_10))
def mMac_l0 (key : Str) (l : List Str) : Nat → Nat → List Int → Nat × (List Int)
  | 0, x_1, x_2 => (x_1, x_2)
  | n_3 + 1, x_1, x_2 => (if ((x_1 : Nat) : Int) < 64 then (mMac_l0 key l n_3 (x_1 + 1) (x_2 ++ ([(xorI .u8 ((toI (key.take 64) ++ (List.replicate 64 (0 : Int)).drop key.length).getD x_1 default) 54)] : List Int))) else (x_1, x_2))
def mMac (key : Str) (l : List Str) : Str := (run2 (mMac_l0 key l (64 + 1) 0 []) (fun x_1 x_2 => (run0 () (run2 (mMac_l1 key l x_1 x_2 (64 + 1) 0 []) (fun x_9 x_10 => (run0 () (sSum ((toS x_10) ++ (Lib.join ([(sSum ((toS x_2) ++ (Lib.join l ([] : Str))))] : List Str) ([] : Str))))))))))
def mSame_l0 (a : Str) (b : Str) : Nat → Nat → Int → Nat × Int
  | 0, x_1, differ_2 => (x_1, differ_2)
  | n_3 + 1, x_1, differ_2 => (if ((x_1 : Nat) : Int) < (if ((b.length : Nat) : Int) < ((a.length : Nat) : Int) then ((b.length : Nat) : Int) else ((a.length : Nat) : Int)) then (mSame_l0 a b n_3 (x_1 + 1) (orI .i64 differ_2 (xorI .u8 (((a.getD x_1 default).toNat : Nat) : Int) (((b.getD x_1 default).toNat : Nat) : Int)))) else (x_1, differ_2))
def mSame (a : Str) (b : Str) : Bool := (run2 (mSame_l0 a b (((if ((b.length : Nat) : Int) < ((a.length : Nat) : Int) then ((b.length : Nat) : Int) else ((a.length : Nat) : Int)) - ((0 : Nat) : Int)).toNat + 1) 0 (xorI .i64 ((a.length : Nat) : Int) ((b.length : Nat) : Int))) (fun x_1 differ_2 => decide (differ_2 = 0)))
def mMacOf (key : Str) (s : Str) : Str × Int := (if (mRight key) = true then ((mMac key ([s] : List Str)), 0) else (([] : Str), 50))
def mChal (a : Int) (b : Int) : Str × Int := (if 0 ≤ (([a, b] : List Int).getD 0 default) then (if (([a, b] : List Int).getD 0 default) ≤ 2147483647 then (if 0 ≤ (([a, b] : List Int).getD 1 default) then (if (([a, b] : List Int).getD 1 default) ≤ 2147483647 then ((sSum (Lib.join ((([([99, 104, 97, 108, 108, 101, 110, 103, 101] : Str)] : List Str) ++ ([(Lib.itoa (([a, b] : List Int).getD 0 default))] : List Str)) ++ ([(Lib.itoa (([a, b] : List Int).getD 1 default))] : List Str)) ([32] : Str))), 0) else (([] : Str), 2)) else (([] : Str), 2)) else (([] : Str), 2)) else (([] : Str), 2))
def mAns (key : Str) (challenge : Str) (name : Str) : Str × Int := (if (mRight key) = true then (if ((challenge.length : Nat) : Int) = 32 then ((mMac key ([challenge, name] : List Str)), 0) else (([] : Str), 2)) else (([] : Str), 50))
end Go.Proofs.YtodejmindmiknaaDoor.Jd
