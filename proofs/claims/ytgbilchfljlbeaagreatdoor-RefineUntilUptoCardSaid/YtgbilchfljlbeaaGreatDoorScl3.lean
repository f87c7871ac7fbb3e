/-
  Floats times a power of two: what is normal is scaled exactly. No condition. (Groundwork for SolveScales, LowerScaled, VectorEven, RefineScales.)
-/
import Derived.Test.YtgbilchfljlbeaaGreatDoorOpp
import Derived.Test.YtgbilchfljlbeaaGreatDoorWhl3
import Derived.Test.YtgbilchfljlbeaaGreatDoorFlz3
set_option linter.all false
set_option maxRecDepth 100000
set_option maxHeartbeats 4000000
namespace Go.Eng
end Go.Eng
/-
  Floats times a power of two: grids. What is a multiple of a power of two and is not too great stays so under sums, products and quotients, and scaling goes through each of them. No condition. (Groundwork for SolveScales, LowerScaled, VectorEven.)
-/
set_option maxRecDepth 100000
set_option maxHeartbeats 4000000
set_option exponentiation.threshold 5000
namespace Go.Eng
structure Gr (K M:Nat) (x:Nat):Prop where
  fin:Ab2 x<9218868437227405312
  dv:2^K ∣ Bq8 (Ab2 x)
  le:Bq8 (Ab2 x)≤2^M
theorem Gr.mono {K K' M M' x:Nat} (h:Gr K M x) (hK:K'≤K) (hM:M≤M'):Gr K' M' x:=
  ⟨h.fin,Nat.dvd_trans (Nat.pow_dvd_pow 2 hK) h.dv,Nat.le_trans h.le (Nat.pow_le_pow_right (by omega) hM)⟩
theorem Gr.zero {K M x:Nat} (h:Ab2 x=0):Gr K M x:=by
  have:Bq8 (Ab2 x)=0:=by rw [h];decide +kernel
  exact ⟨by omega,by rw [this];exact Nat.dvd_zero _,by rw [this];exact Nat.zero_le _⟩
theorem Gr.neg {K M x:Nat} (h:Gr K M x):Gr K M (Bn0 x):=by
  obtain ⟨h1,h2,h3⟩:=h
  exact ⟨by rw [Av2];exact h1,by rw [Av2];exact h2,by rw [Av2];exact h3⟩
end Go.Eng
/-
  Floats times a power of two: quotients, products with the power itself, sums of products; comparisons with a constant. No condition. (Groundwork for SolveScales, LowerScaled.)
-/
set_option maxRecDepth 100000
set_option maxHeartbeats 4000000
set_option exponentiation.threshold 5000
namespace Go.Eng
theorem Dw2 (s:Bool) (m:Nat) (p:Int):Ieee.double.nearest s m p<18446744073709551616:=by
  obtain ⟨r,h1,h2,_⟩:=Cv9 s m p
  rw [h1];exact Bf2 s r (by omega)
end Go.Eng
