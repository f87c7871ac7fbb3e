
/-
  Comparing lists of floats on the plain side. No condition.
-/
import Derived.Test.YtgbilchfljlbeaaGreatDoorOpp
import Derived.Test.YtgbilchfljlbeaaGreatDoorTp
set_option linter.all false
set_option maxRecDepth 100000
set_option maxHeartbeats 4000000
namespace Go.Eng
open Go
theorem Bo1 {l m:List Nat} (hl:l.length≤4294967296):Ak8 l m=some (l==m):=by
  unfold Ak8
  simp only [Option.bind_some]
  refine Ba0 (fun h=>?_) (fun h=>?_)
  · have:l≠m:=fun e=>by subst e;simp at h
    simp [this]
  · have hlen:l.length=m.length:=by simp at h;omega
    have step:∀ i,i<l.length→l.getD i 0=m.getD i 0→Ag3 l m ((i:Nat):Int)=some (.inl ((i+1:Nat):Int)):=by
      intro i hi he
      unfold Ag3 Ax8
      simp only [Option.bind_some,Ab8 0 hi,Ab8 0 (show i<m.length by omega),he,beq_self_eq_true,Bool.not_true,cF]
      rw [Aa6 (by simp;omega),wrU (by omega)]
    by_cases he:l=m
    · subst he
      have:=Ab9 (b:=Ag3 l l) (fun i=>((i:Nat):Int)) (o := .inl ()) l.length (by rw [Ae6];omega) (fun i hi=>step i hi rfl) (by
        unfold Ag3
        simp only [Option.bind_some]
        rw [Aa8 (by simp)])
      rw [show ((0:Nat):Int)=0 from rfl] at this
      rw [this];simp
    · obtain ⟨i,h1,h2,h3⟩:=Dw9 0 hlen he
      have:=Ab9 (b:=Ag3 l m) (fun i=>((i:Nat):Int)) (o := .inr false) i (by rw [Ae6];omega) (fun j hj=>step j (by omega) (h3 j hj)) (by
        unfold Ag3 Ax8
        have e:(l.getD i 0==m.getD i 0)=false:=by simpa using h2
        simp only [Option.bind_some,Ab8 0 h1,Ab8 0 (show i<m.length by omega),e,Bool.not_false,cT]
        rw [Aa6 (by simp;omega)])
      rw [show ((0:Nat):Int)=0 from rfl] at this
      rw [this];simp [he]
end Go.Eng
/-
  Matrices on the plain side: right ones, and grids. No condition.
-/
set_option maxRecDepth 100000
set_option maxHeartbeats 4000000
set_option exponentiation.threshold 70000
namespace Go.Eng
open Go
theorem Et6 {r c r' c':Int} {l m:List Nat} (hl:l.length≤4294967296):Au7 r c l r' c' m=some (r==r'&&c==c'&&l==m):=by
  unfold Au7
  simp only [Bo1 hl,Option.bind_some]
  cases r==r'<;>cases c==c'<;>rfl
def Cb3 (r c:Int) (n:Nat):Bool:=decide (0≤r∧r≤48∧0≤c∧c≤48∧(n:Int)=r*c)
theorem He5 (n:Int):As4 n=some (decide (0≤n∧n≤48)):=by
  unfold As4
  refine Ba0 (fun h=>?_) (fun h=>?_)<;>simp at h<;>simp<;>omega
theorem Ha5 {r c:Int} (h:0≤r∧r≤48∧0≤c∧c≤48):0≤r*c∧r*c≤2304:=
  ⟨Int.mul_nonneg h.1 h.2.2.1,by have:=Int.mul_le_mul h.2.1 h.2.2.2 h.2.2.1 (by omega:(0:Int)≤48);omega⟩
theorem Ed1 (r c:Int) (l:List Nat):Ap7 r c l=some (Cb3 r c l.length):=by
  unfold Ap7
  simp only [He5,Option.bind_some]
  refine Ba0 (fun h=>Ba0 (fun h2=>?_) (fun h2=>?_)) (fun h=>?_)
  · simp only [decide_eq_true_eq] at h h2
    have:=Ha5 ⟨h.1,h.2,h2⟩
    rw [wrI (by omega) (by omega)]
    congr 1
    unfold Cb3
    rw [Bool.eq_iff_iff];simp;omega
  · simp only [decide_eq_false_iff_not] at h h2
    congr 1;unfold Cb3;simp;omega
  · simp only [decide_eq_false_iff_not] at h
    congr 1;unfold Cb3;simp;omega
theorem Fm6 {r c:Int} {n:Nat} (h:Cb3 r c n=true):∃ a b:Nat,r=a∧c=b∧a≤48∧b≤48∧n=a*b∧a*b≤2304:=by
  unfold Cb3 at h
  simp only [decide_eq_true_eq] at h
  obtain ⟨h1,h2,h3,h4,h5⟩:=h
  obtain ⟨a,rfl⟩:=Int.eq_ofNat_of_zero_le h1
  obtain ⟨b,rfl⟩:=Int.eq_ofNat_of_zero_le h3
  have:a*b≤48*48:=Nat.mul_le_mul (by omega) (by omega)
  refine ⟨a,b,rfl,rfl,by omega,by omega,?_,by omega⟩
  have:((a*b:Nat):Int)=(a:Int)*b:=by simp
  omega
end Go.Eng
