/- Plain facts on HMACs as the program computes them: lengths. No condition. -/
import Derived.Test.YtodejmindmiknaaDoorJMM
import Derived.Test.YtodejmindmiknaaDoorJSN
namespace Go.Proofs.YtodejmindmiknaaDoor.Jd
set_option linter.unusedSimpArgs false
set_option linter.unusedVariables false
theorem join_one (x s : List UInt8) : Lib.join [x] s = x := by simp [Lib.join, List.intercalate]
theorem join_two (x y s : List UInt8) : (Lib.join [x, y] s).length = x.length + s.length + y.length := by
  simp [Lib.join, List.intercalate, List.intersperse]; omega
theorem join_three (x y z s : List UInt8) : (Lib.join [x, y, z] s).length = x.length + s.length + y.length + s.length + z.length := by
  simp [Lib.join, List.intercalate, List.intersperse]; omega
theorem mMac_len (key : Str) (l : List Str) : (mMac key l).length = 32 := by
  unfold mMac
  simp only [run2, run0]
  exact sSum_len _
theorem mChal_len (a b : Int) : (mChal a b).1.length ≤ 32 := by
  unfold mChal
  repeat' split
  all_goals first | simp only [sSum_len]; omega | simp
theorem mAns_len (key challenge name : Str) : (mAns key challenge name).1.length ≤ 32 := by
  unfold mAns
  repeat' split
  all_goals first | simp only [mMac_len]; omega | simp
end Go.Proofs.YtodejmindmiknaaDoor.Jd
