/-
  Whole numbers as floats: exact sums and products. No condition. (Groundwork for MatrixWhole, SolveWhole, LowerBack.)
-/
import Derived.Test.YtgbilchfljlbeaaDoorOpp
import Derived.Test.YtgbilchfljlbeaaDoorFlz3
import Derived.Test.YtgbilchfljlbeaaDoorEng
set_option linter.all false
set_option maxRecDepth 100000
set_option maxHeartbeats 4000000
namespace Go.Eng
theorem nearest_zero (s:Bool) (p:Int):Ieee.double.nearest s 0 p=Ieee.double.word s 0:=by unfold Ieee.Format.nearest;exact if_pos rfl
end Go.Eng
/-
  Whole numbers as floats: exact quotients. No condition. (Groundwork for SolveWhole.)
-/
set_option maxRecDepth 100000
set_option maxHeartbeats 4000000
set_option exponentiation.threshold 3000
namespace Go.Eng
theorem read_fneg {y:Nat} (hy:magF y<9218868437227405312):Ieee.double.read (fneg y)=(Ieee.double.read y).opposite:=by
  have h1:=fneg_mag y
  have h2:=fneg_neg y
  rcases Nat.lt_or_ge (magF y) 4503599627370496 with h | h
  · rw [read_small h,read_small (by omega),h1,h2];rfl
  · rw [read_normal h hy,read_normal (by omega) (by omega),h1,h2];rfl
theorem fsub_fneg {x y:Nat} (hy:magF y<9218868437227405312):fsub x y=fadd x (fneg y):=by
  unfold fsub fadd Ieee.Format.sub Ieee.Format.add
  rw [read_fneg hy]
end Go.Eng
/-
  Whole numbers as floats: sums and differences that may be noughts of either sign, comparisons, conversions. No condition. (Groundwork for SolveWhole, MatrixWhole.)
-/
set_option maxRecDepth 100000
set_option maxHeartbeats 4000000
set_option exponentiation.threshold 3000
namespace Go.Eng
open Go
end Go.Eng
