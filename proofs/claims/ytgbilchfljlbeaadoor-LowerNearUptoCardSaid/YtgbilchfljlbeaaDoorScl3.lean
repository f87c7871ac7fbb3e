/-
  Floats times a power of two: what is normal is scaled exactly. No condition. (Groundwork for SolveScales, LowerScaled, VectorEven, RefineScales.)
-/
import Derived.Test.YtgbilchfljlbeaaDoorOpp
import Derived.Test.YtgbilchfljlbeaaDoorWhl3
import Derived.Test.YtgbilchfljlbeaaDoorFlz3
set_option linter.all false
set_option maxRecDepth 100000
set_option maxHeartbeats 4000000
namespace Go.Eng
end Go.Eng
/-
  Floats times a power of two: grids. What is a multiple of a power of two and is not too great stays so under sums, products and quotients, and scaling goes through each of them. No condition. (Groundwork for SolveScales, LowerScaled, VectorEven.)
-/
set_option maxRecDepth 100000
set_option maxHeartbeats 4000000
set_option exponentiation.threshold 5000
namespace Go.Eng
structure Gr (K M:Nat) (x:Nat):Prop where
  fin:magF x<9218868437227405312
  dv:2^K ∣ vmag (magF x)
  le:vmag (magF x)≤2^M
theorem Gr.mono {K K' M M' x:Nat} (h:Gr K M x) (hK:K'≤K) (hM:M≤M'):Gr K' M' x:=
  ⟨h.fin,Nat.dvd_trans (Nat.pow_dvd_pow 2 hK) h.dv,Nat.le_trans h.le (Nat.pow_le_pow_right (by omega) hM)⟩
theorem Gr.zero {K M x:Nat} (h:magF x=0):Gr K M x:=by
  have:vmag (magF x)=0:=by rw [h];decide +kernel
  exact ⟨by omega,by rw [this];exact Nat.dvd_zero _,by rw [this];exact Nat.zero_le _⟩
theorem Gr.neg {K M x:Nat} (h:Gr K M x):Gr K M (fneg x):=by
  obtain ⟨h1,h2,h3⟩:=h
  exact ⟨by rw [fneg_mag];exact h1,by rw [fneg_mag];exact h2,by rw [fneg_mag];exact h3⟩
end Go.Eng
/-
  Floats times a power of two: quotients, products with the power itself, sums of products; comparisons with a constant. No condition. (Groundwork for SolveScales, LowerScaled.)
-/
set_option maxRecDepth 100000
set_option maxHeartbeats 4000000
set_option exponentiation.threshold 5000
namespace Go.Eng
theorem fmul_num {x y m n:Nat} {s t:Bool} {i j:Int} (hx:Ieee.double.read x = .number s m i) (hy:Ieee.double.read y = .number t n j):fmul x y=Ieee.double.nearest (s ^^ t) (m*n) (i+j):=by unfold fmul Ieee.Format.mul;rw [hx,hy];rfl
theorem vmag_le_iff {r s:Nat}:vmag r≤vmag s↔r≤s:=by
  constructor
  · intro h
    rcases Nat.lt_or_ge s r with k | k
    · have:=vmag_lt k;omega
    · exact k
  · intro h
    rcases Nat.lt_or_eq_of_le h with k | k
    · exact Nat.le_of_lt (vmag_lt k)
    · rw [k];exact Nat.le_refl _
end Go.Eng
