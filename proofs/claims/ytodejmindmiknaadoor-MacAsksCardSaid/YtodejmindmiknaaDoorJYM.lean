/- Part of the proofs of this seat: walks and plain facts. No condition. -/
import Derived.Test.YtodejmindmiknaaDoorJXM
namespace Go.Proofs.YtodejmindmiknaaDoor.Jd
open Go.Proofs
open Go.RowKit (Below)
set_option maxRecDepth 100000
set_option linter.unusedVariables false
set_option linter.unusedSimpArgs false
def mShown  : Bool := (if (sHex ((mMacOf ([107, 101, 121] : Str) ([84, 104, 101, 32, 113, 117, 105, 99, 107, 32, 98, 114, 111, 119, 110, 32, 102, 111, 120, 32, 106, 117, 109, 112, 115, 32, 111, 118, 101, 114, 32, 116, 104, 101, 32, 108, 97, 122, 121, 32, 100, 111, 103] : Str)).1)) = ([102, 55, 98, 99, 56, 51, 102, 52, 51, 48, 53, 51, 56, 52, 50, 52, 98, 49, 51, 50, 57, 56, 101, 54, 97, 97, 54, 102, 98, 49, 52, 51, 101, 102, 52, 100, 53, 57, 97, 49, 52, 57, 52, 54, 49, 55, 53, 57, 57, 55, 52, 55, 57, 100, 98, 99, 50, 100, 49, 97, 51, 99, 100, 56] : Str) then (if ((mMacOf ([107, 101, 121] : Str) ([84, 104, 101, 32, 113, 117, 105, 99, 107, 32, 98, 114, 111, 119, 110, 32, 102, 111, 120, 32, 106, 117, 109, 112, 115, 32, 111, 118, 101, 114, 32, 116, 104, 101, 32, 108, 97, 122, 121, 32, 100, 111, 103] : Str)).2) = 0 then (if ((mChal 1 2).1) = (sSum ([99, 104, 97, 108, 108, 101, 110, 103, 101, 32, 49, 32, 50] : Str)) then (if ((mChal 1 2).2) = 0 then (if ((mAns ([] : Str) ((mChal 1 2).1) ([97] : Str)).2) = 50 then (if ((mAns ([107] : Str) ([] : Str) ([97] : Str)).2) = 2 then (if ((mChal (-1) 0).2) = 2 then (if (mSame ([97] : Str) ([97] : Str)) = true then (!(mSame ([97] : Str) ([98] : Str))) else false) else false) else false) else false) else false) else false) else false) else false)
end Go.Proofs.YtodejmindmiknaaDoor.Jd
