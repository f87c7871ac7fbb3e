
/-
  A factor's sums in floats against the exact ones. No condition.
-/
import Derived.Test.YtgbilchfljlbeaaDoorFin2
import Derived.Test.YtgbilchfljlbeaaDoorPl12e
set_option linter.all false
set_option maxRecDepth 100000
set_option maxHeartbeats 400000
set_option exponentiation.threshold 3000
namespace Go.Eng
open Go
theorem asum_lin {e t l:Nat→Nat} {A B C:Nat}:∀ {n:Nat},(∀ k,k<n→e k*A≤t k+l k*C+B*C)→asum e n*A≤asum t n+(asum l n+n*B)*C
  | 0,_=>by simp [asum]
  | n+1,h=>by
    have ih:=asum_lin (n:=n) fun k hk=>h k (by omega)
    have hn:=h n (by omega)
    show (asum e n+e n)*A≤asum t n+t n+(asum l n+l n+(n+1)*B)*C
    rw [Nat.add_mul,Nat.add_mul,Nat.add_mul,Nat.succ_mul,Nat.add_mul]
    rw [Nat.add_mul] at ih
    omega
theorem tri_small {e t l:Nat} {U:Nat} (h:e*2^53*2^53≤t*(2*2^53+1)+l*2^1126*(2^53+1)+2^53*2^1126*U):e*(2*2^50)≤t+l*2^1125+U*2^1125:=by
  refine Nat.le_of_mul_le_mul_right (c:=2^55) ?_ (Nat.two_pow_pos _)
  have e1:e*(2*2^50)*2^55=e*2^53*2^53:=by
    rw [Nat.mul_assoc e (2*2^50),show 2*2^50*2^55=2^53*2^53 by decide,← Nat.mul_assoc]
  rw [e1]
  refine Nat.le_trans h ?_
  rw [Nat.add_mul,Nat.add_mul]
  refine Nat.add_le_add (Nat.add_le_add ?_ ?_) ?_
  · exact Nat.mul_le_mul_left _ (by decide)
  · rw [Nat.mul_assoc,Nat.mul_assoc]
    refine Nat.mul_le_mul_left _ ?_
    rw [show (2:Nat)^1125*2^55=2^1126*2^54 from (Nat.pow_add 2 1125 55).symm.trans (Nat.pow_add 2 1126 54)]
    exact Nat.mul_le_mul_left _ (by decide)
  · rw [Nat.mul_comm _ U,Nat.mul_assoc U]
    refine Nat.mul_le_mul_left _ ?_
    rw [← Nat.pow_add,← Nat.pow_add]
    exact Nat.pow_le_pow_right (by decide) (by decide)
theorem asum_two {p t e:Nat→Nat} {U:Nat}:∀ {n:Nat},(∀ k,k<n→p k*U*U≤t k+e k)→asum p n*U*U≤asum t n+asum e n
  | 0,_=>by simp [asum]
  | n+1,h=>by
    have ih:=asum_two (n:=n) fun k hk=>h k (by omega)
    have hn:=h n (by omega)
    show (asum p n+p n)*U*U≤asum t n+t n+(asum e n+e n)
    rw [Nat.add_mul,Nat.add_mul]
    omega
theorem psum_lin (P T:Nat→Int) (V:Int):∀ n,psum (fun k=>P k*V*V-T k) n=psum P n*V*V-psum T n
  | 0=>by simp [psum]
  | n+1=>by
    show psum (fun k=>P k*V*V-T k) n+(P n*V*V-T n)=(psum P n+P n)*V*V-(psum T n+T n)
    rw [psum_lin P T V n,Int.add_mul,Int.add_mul]
    omega
theorem off_le {A SP Sj ST F:Int} {U SE:Nat} (h:(SP*(U:Int)*(U:Int)-ST).natAbs≤SE) :
    (ST+F*(U:Int)-A*(U:Int)*(U:Int)).natAbs≤(A-SP-Sj).natAbs*U*U+SE+(F-Sj*(U:Int)).natAbs*U:=by
  have e:ST+F*(U:Int)-A*(U:Int)*(U:Int)=(F-Sj*(U:Int))*(U:Int)-(A-SP-Sj)*(U:Int)*(U:Int)-(SP*(U:Int)*(U:Int)-ST):=by
    simp only [Int.sub_mul]
    omega
  have n1:((F-Sj*(U:Int))*(U:Int)).natAbs=(F-Sj*(U:Int)).natAbs*U:=by rw [Int.natAbs_mul,Int.natAbs_natCast]
  have n2:((A-SP-Sj)*(U:Int)*(U:Int)).natAbs=(A-SP-Sj).natAbs*U*U:=by rw [Int.natAbs_mul,Int.natAbs_mul,Int.natAbs_natCast]
  rw [e]
  omega
theorem subS_fin {f g:Nat→Nat} {s:Nat}:∀ {j:Nat},magF (subS f g s j)<9218868437227405312→(∀ k,k≤j→magF (subS f g s k)<9218868437227405312)∧∀ k,k<j→magF (fmul (f k) (g k))<9218868437227405312
  | 0,h=>⟨fun k hk=>by rw [Nat.le_zero.1 hk];exact h,fun k hk=>by omega⟩
  | j+1,h=>by
    have hs:magF (fsub (subS f g s j) (fmul (f j) (g j)))<9218868437227405312:=h
    obtain ⟨a,b⟩:=fsub_fin hs
    obtain ⟨i1,i2⟩:=subS_fin (j:=j) a
    refine ⟨fun k hk=>?_,fun k hk=>?_⟩
    · rcases Nat.eq_or_lt_of_le hk with c | c
      · rw [c];exact h
      · exact i1 k (by omega)
    · by_cases c:k=j
      · rw [c];exact b
      · exact i2 k (by omega)
theorem subS_near {l g d:Nat→Nat} {s:Nat} {j:Nat} (hj:j≤8) (hf:magF (subS l (fun k=>fmul (g k) (d k)) s j)<9218868437227405312) {F:Int} {Dj:Nat}
    (hF:(F-sval (subS l (fun k=>fmul (g k) (d k)) s j)*((2^1074:Nat):Int)).natAbs*(8*2^50)≤3*((sval (subS l (fun k=>fmul (g k) (d k)) s j)).natAbs*2^1074)+4*2^50*Dj) :
    (psum (fun k=>sval (l k)*sval (d k)*sval (g k)) j+F*((2^1074:Nat):Int)-sval s*((2^1074:Nat):Int)*((2^1074:Nat):Int)).natAbs*2^50 ≤
      (j+2)*(asum (fun k=>(sval (l k)*sval (d k)*sval (g k)).natAbs) j+F.natAbs*2^1074+(2^1074+asum (fun k=>(sval (l k)).natAbs) j+Dj)*(8*2^1125)):=by
  obtain ⟨f1,f2⟩:=subS_fin hf
  have pf:=fun k hk=>fmul_fin (f2 k hk)
  have vf:=fun k hk=>fmul_fin (pf k hk).2
  have h3:∀ k,k<j→(sval (subS l (fun k=>fmul (g k) (d k)) s (k+1))-(sval (subS l (fun k=>fmul (g k) (d k)) s k)-sval (fmul (l k) (fmul (g k) (d k))))).natAbs*2^53≤(sval (subS l (fun k=>fmul (g k) (d k)) s k)-sval (fmul (l k) (fmul (g k) (d k)))).natAbs:=fun k hk=>fsub_err (f1 k (by omega)) (f2 k hk) (f1 (k+1) (by omega))
  have lost:=lost_le (S:=fun k=>sval (subS l (fun k=>fmul (g k) (d k)) s k)) (P:=fun k=>sval (fmul (l k) (fmul (g k) (d k)))) hj h3
  have tri:∀ k,k<j→(sval (fmul (l k) (fmul (g k) (d k)))*((2^1074:Nat):Int)*((2^1074:Nat):Int)-sval (l k)*sval (d k)*sval (g k)).natAbs*(2*2^50)≤(sval (l k)*sval (d k)*sval (g k)).natAbs+(sval (l k)).natAbs*2^1125+2^1074*2^1125:=fun k hk=>
    tri_small (tri_err (fmul_err (vf k hk).1 (vf k hk).2 (pf k hk).2) (fmul_err (pf k hk).1 (pf k hk).2 (f2 k hk)))
  have SE:=asum_lin (e:=fun k=>(sval (fmul (l k) (fmul (g k) (d k)))*((2^1074:Nat):Int)*((2^1074:Nat):Int)-sval (l k)*sval (d k)*sval (g k)).natAbs) (t:=fun k=>(sval (l k)*sval (d k)*sval (g k)).natAbs) (l:=fun k=>(sval (l k)).natAbs) (n:=j) tri
  have AP:=asum_two (p:=fun k=>(sval (fmul (l k) (fmul (g k) (d k)))).natAbs) (t:=fun k=>(sval (l k)*sval (d k)*sval (g k)).natAbs) (e:=fun k=>(sval (fmul (l k) (fmul (g k) (d k)))*((2^1074:Nat):Int)*((2^1074:Nat):Int)-sval (l k)*sval (d k)*sval (g k)).natAbs) (U:=2^1074) (n:=j) fun k _=>by
    have:(sval (fmul (l k) (fmul (g k) (d k)))*((2^1074:Nat):Int)*((2^1074:Nat):Int)).natAbs=(sval (fmul (l k) (fmul (g k) (d k)))).natAbs*2^1074*2^1074:=by rw [Int.natAbs_mul,Int.natAbs_mul,Int.natAbs_natCast]
    rw [← this]
    generalize sval (fmul (l k) (fmul (g k) (d k)))*((2^1074:Nat):Int)*((2^1074:Nat):Int)=x
    generalize sval (l k)*sval (d k)*sval (g k)=y
    omega
  have SP:=psum_abs (fun k=>sval (fmul (l k) (fmul (g k) (d k)))*((2^1074:Nat):Int)*((2^1074:Nat):Int)-sval (l k)*sval (d k)*sval (g k)) j
  rw [psum_lin (fun k=>sval (fmul (l k) (fmul (g k) (d k)))) (fun k=>sval (l k)*sval (d k)*sval (g k))] at SP
  have off:=off_le (A:=sval s) (Sj:=sval (subS l (fun k=>fmul (g k) (d k)) s j)) (F:=F) SP
  refine Nat.le_trans (Nat.mul_le_mul_right _ off) ?_
  have h51:(2:Nat)^51=2*2^50:=by decide
  rw [h51] at lost
  refine near_nat hj (by decide) ?_ lost AP SE hF ?_
  · rw [show (2:Nat)*2^50=2^51 by decide,← Nat.pow_add]
  · have:(sval (subS l (fun k=>fmul (g k) (d k)) s j)*((2^1074:Nat):Int)).natAbs=(sval (subS l (fun k=>fmul (g k) (d k)) s j)).natAbs*2^1074:=by rw [Int.natAbs_mul,Int.natAbs_natCast]
    rw [← this]
    generalize sval (subS l (fun k=>fmul (g k) (d k)) s j)*((2^1074:Nat):Int)=x
    omega
end Go.Eng
/-
  What stands below the diagonal of a factor, times its pivot. No condition.
-/
set_option maxRecDepth 100000
set_option maxHeartbeats 400000
set_option exponentiation.threshold 3000
namespace Go.Eng
open Go
theorem fdiv_zero_l {x d:Nat} (hx:magF x=0) (hd:magF d<9218868437227405312) (d0:magF d≠0):magF (fdiv x d)=0:=by
  obtain ⟨n,j,hq,hn⟩:=read_fin hd
  have hn0:n≠0:=fun k=>by
    rw [k,Nat.zero_mul] at hn
    exact d0 ((vmag_zero _).1 hn.symm)
  have rx:Ieee.double.read x = .number (negF x) 0 (-1074):=by rw [read_small (by omega),hx]
  have e:fdiv x d=Ieee.double.word (negF x ^^ negF d) 0:=by
    unfold fdiv Ieee.Format.div
    rw [rx,hq]
    simp only [Ieee.Datum.quotient,if_neg hn0,Option.map_some,Option.getD_some,Nat.zero_shiftLeft,Nat.zero_div,Nat.zero_mod,Nat.mul_zero]
    exact nearest_zero _ _
  rw [e];exact mag_word (by omega)
theorem quo_F {x d:Nat} (hx:magF x<9218868437227405312) (hd:magF d<9218868437227405312) (d0:magF d≠0) (hf:magF (fdiv x d)<9218868437227405312) :
    (sval (fdiv x d)*sval d-sval x*((2^1074:Nat):Int)).natAbs*(8*2^50)≤3*((sval x).natAbs*2^1074)+4*2^50*(sval d).natAbs:=by
  by_cases x0:magF x=0
  · rw [(sval_zero _).2 (fdiv_zero_l x0 hd d0),(sval_zero x).2 x0]
    simp
  · obtain ⟨r,r1,r2,r3,r4⟩:=fdiv_err hx hd x0 d0 hf
    have ex:sval x=sgN (negF x) (vmag (magF x)):=rfl
    have ed:sval d=sgN (negF d) (vmag (magF d)):=rfl
    have ef:sval (fdiv x d)*sval d=sgN (negF x) (vmag r*vmag (magF d)):=by
      rw [r1,sval_wr _ (by omega),ed]
      unfold sgN
      cases negF x<;>cases negF d<;>simp [Int.natCast_mul,Int.neg_mul,Int.mul_neg]
    have eu:sval x*((2^1074:Nat):Int)=sgN (negF x) (vmag (magF x)*2^1074):=by
      rw [ex]
      unfold sgN
      cases negF x<;>simp [Int.neg_mul]
    rw [ef,eu,sgN_diff,ex,ed,sgN_abs,sgN_abs,show 8*2^50=2^53 by decide,show 4*2^50=2^52 by decide]
    exact diff_le r3 r4
end Go.Eng
/-
  LowerNear's inequality at one place of a factor. No condition.
-/
set_option maxRecDepth 100000
set_option maxHeartbeats 400000
set_option exponentiation.threshold 3000
namespace Go.Eng
open Go
theorem fdiv_fin_l {x d:Nat} (hd:magF d<9218868437227405312) (h:magF (fdiv x d)<9218868437227405312):magF x<9218868437227405312:=by
  obtain ⟨n,j,hq,_⟩:=read_fin hd
  rcases Nat.lt_or_ge (magF x) 9218868437227405312 with c | c
  · exact c
  · exfalso
    unfold fdiv Ieee.Format.div at h
    rw [hq] at h
    rcases far_read (x:=x) (by omega) with ⟨t,k⟩ | ⟨t,f,k⟩
    · rw [k] at h
      exact inf_far _ h
    · rw [k] at h
      exact qnan_far (by simpa [Ieee.Datum.quotient] using h)
def placeF (L D:List Nat) (i j:Nat):Int:=if i=j then sval (D.getD j 0)*((2^1074:Nat):Int) else sval (lowG L i j)*sval (D.getD j 0)
theorem place_near {a L D:List Nat} {n i j:Nat} (hn:n≤8) (hF:Fac a n L D) (hji:j≤i) (hi:i<n) :
    (psum (fun k=>sval (lowG L i k)*sval (D.getD k 0)*sval (lowG L j k)) j+placeF L D i j*((2^1074:Nat):Int)-sval (a.getD (i*n+j) 0)*((2^1074:Nat):Int)*((2^1074:Nat):Int)).natAbs*2^50 ≤
      (j+2)*(asum (fun k=>(sval (lowG L i k)*sval (D.getD k 0)*sval (lowG L j k)).natAbs) j+(placeF L D i j).natAbs*2^1074+(2^1074+asum (fun k=>(sval (lowG L i k)).natAbs) j+(sval (D.getD j 0)).natAbs)*(8*2^1125)):=by
  obtain ⟨d1,d2,d3⟩:=hF.dia j (by omega)
  have dfin:magF (D.getD j 0)<9218868437227405312:=of_decide_eq_true d3
  by_cases c:i=j
  · subst c
    have hc:colS a n L D i i=subS (fun k=>lowG L i k) (fun k=>fmul (lowG L i k) (D.getD k 0)) (a.getD (i*n+i) 0) i:=rfl
    rw [hc] at d1
    have e:placeF L D i i=sval (D.getD i 0)*((2^1074:Nat):Int):=if_pos rfl
    rw [e]
    refine subS_near (l:=fun k=>lowG L i k) (g:=fun k=>lowG L i k) (d:=fun k=>D.getD k 0) (by omega) (by rw [← d1];exact dfin) ?_
    rw [← d1,Int.sub_self]
    simp
  · obtain ⟨b1,b2⟩:=hF.bel i j (by omega) hi (by omega)
    have lfin:magF (lowG L i j)<9218868437227405312:=of_decide_eq_true b2
    have hc:colS a n L D i j=subS (fun k=>lowG L i k) (fun k=>fmul (lowG L j k) (D.getD k 0)) (a.getD (i*n+j) 0) j:=rfl
    rw [hc] at b1
    rw [b1] at lfin
    have sfin:=fdiv_fin_l dfin lfin
    have d0:magF (D.getD j 0)≠0:=fun k=>by
      rw [fgt_zero,k] at d2
      simp at d2
    have e:placeF L D i j=sval (lowG L i j)*sval (D.getD j 0):=if_neg c
    rw [e]
    refine subS_near (l:=fun k=>lowG L i k) (g:=fun k=>lowG L j k) (d:=fun k=>D.getD k 0) (by omega) sfin ?_
    rw [b1]
    exact quo_F sfin dfin d0 lfin
end Go.Eng
