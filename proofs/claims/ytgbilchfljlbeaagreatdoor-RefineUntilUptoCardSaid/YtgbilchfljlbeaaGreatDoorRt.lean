
/-
  Exact numbers, as the document reckons with them: sums, by value. No condition.
-/
import Derived.Test.YtgbilchfljlbeaaGreatDoorNr4
import Derived.Test.YtgbilchfljlbeaaGreatDoorSg
set_option linter.all false
set_option maxRecDepth 100000
set_option maxHeartbeats 4000000
set_option exponentiation.threshold 70000
namespace Go.Eng
open Go
def nv (K:Int) (s:Bool) (n:Nat) (e:Int):Int:=sgN s n*((2^(e-K).toNat:Nat):Int)
theorem Gi7 (s:Bool):sgN s 0=0:=by cases s<;>rfl
theorem Ey0 (K:Int) (s:Bool) (e:Int):nv K s 0 e=0:=by unfold nv;rw [Gi7,Int.zero_mul]
theorem Gn3 {K e:Int} {s:Bool} {n d:Nat} (h:K≤e):nv K s (n*2^d) e=nv K s n (e+d):=by
  unfold nv
  have e1:(e+(d:Int)-K).toNat=d+(e-K).toNat:=by omega
  rw [e1,Nat.pow_add,Int.natCast_mul,← Int.mul_assoc]
  congr 1
  unfold sgN
  cases s<;>simp [Int.natCast_mul,Int.neg_mul]
theorem Gd6 {K e:Int} {s t u:Bool} {n k p:Nat} (h:sgN u p=sgN s n+sgN t k):nv K u p e=nv K s n e+nv K t k e:=by
  unfold nv
  rw [h,Int.add_mul]
theorem LWl {n:Nat} {b:Nat} (h:blN n≤b):(LW n).length≤b/64+1:=LW_len' (An8.1 h) (by omega)
theorem Ej1 {s t:Bool} {n k:Nat} {e f:Int} (hn:blN n≤33554432) (hk:blN k≤33554432) (he:e≤f) (h1 : -33554432≤e) (h2:f≤33554432):∃ u p,((Ao3 (LW k) (IntKind.i64.wrap (f-e))).bind fun t6=>
              cond (s==t)
                ((Ae2 (LW n) t6).bind fun t7=>
                  some (s,t7,e))
                ((Ar2 (LW n) t6).bind fun t8=>
                  cond (decide (t8≥0))
                    ((Ai3 (LW n) t6).bind fun t9=>
                      some (s,t9,e))
                    ((Ai3 t6 (LW n)).bind fun t10=>
                      some (t,t10,e))))=some (u,LW p,e)∧∀ K,K≤e→nv K u p e=nv K s n e+nv K t k f:=by
  obtain ⟨d,hd⟩:∃ d:Nat,f-e=d:=⟨(f-e).toNat,by omega⟩
  have l1:=LWl hn
  have l2:=LWl hk
  have hbk:blN (k*2^d)≤100663296:=by
    by_cases c:k=0
    · subst c;rw [Nat.zero_mul];exact Nat.zero_le _
    · rw [Bf5 _ _ c];omega
  have l3:=LWl hbk
  rw [wrI (by omega) (by omega),hd,Gc4 (Bk1 k) (by omega) (by omega),Av6,Option.bind_some]
  have hv:∀ K,K≤e→nv K t k f=nv K t (k*2^d) e:=fun K hK=>by
    rw [Gn3 hK];congr 1;omega
  generalize k*2^d=m at *
  by_cases c:s=t
  · subst c
    rw [Aa6 (by simp),Fh0 (Bk1 n) (Bk1 m) (by omega) (by omega),Av6,Av6]
    refine ⟨s,n+m,rfl,fun K hK=>?_⟩
    rw [hv K hK]
    refine Gd6 ?_
    unfold sgN
    cases s<;>simp<;>omega
  · have hst:t = !s:=by cases s<;>cases t<;>simp at c ⊢
    rw [Aa8 (by rw [beq_eq_false_iff_ne];exact c),Gj5 (Bk1 n) (Bk1 m) (by omega) (by omega),Av6,Av6,Option.bind_some]
    by_cases g:n<m
    · rw [if_pos g,Aa8 (by rfl),Fj8 (Bk1 m) (Bk1 n) (by omega) (by omega) (by rw [Av6,Av6];omega),Av6,Av6]
      refine ⟨t,m-n,rfl,fun K hK=>?_⟩
      rw [hv K hK]
      refine Gd6 ?_
      subst hst
      unfold sgN
      cases s<;>simp<;>omega
    · have e0:decide ((if n<m then (-1:Int) else if n=m then 0 else 1)≥0)=true:=by
        rw [if_neg g]
        split<;>rfl
      rw [e0,cT,Fj8 (Bk1 n) (Bk1 m) (by omega) (by omega) (by rw [Av6,Av6];omega),Av6,Av6]
      refine ⟨s,n-m,rfl,fun K hK=>?_⟩
      rw [hv K hK]
      refine Gd6 ?_
      subst hst
      unfold sgN
      cases s<;>simp<;>omega
theorem Hd6 {s t:Bool} {n k:Nat} {e f:Int} (hn:blN n≤33554432) (hk:blN k≤33554432) (he1 : -33554432≤e) (he2:e≤33554432) (hf1 : -33554432≤f) (hf2:f≤33554432) :
    ∃ u p g,Bk7 s (LW n) e t (LW k) f=some (u,LW p,g)∧min e f≤g∧g≤max e f∧∀ K,K≤e→K≤f→nv K u p g=nv K s n e+nv K t k f:=by
  have l1:=LWl hn
  have l2:=LWl hk
  unfold Bk7
  rw [El1 (Bk1 n) (by omega),Av6,Option.bind_some]
  by_cases n0:n=0
  · rw [decide_eq_true n0,cT]
    exact ⟨t,k,f,rfl,by omega,by omega,fun K _ _=>by rw [n0,Ey0,Int.zero_add]⟩
  · rw [decide_eq_false n0,cF,El1 (Bk1 k) (by omega),Av6,Option.bind_some]
    by_cases k0:k=0
    · rw [decide_eq_true k0,cT]
      exact ⟨s,n,e,rfl,by omega,by omega,fun K _ _=>by rw [k0,Ey0,Int.add_zero]⟩
    · rw [decide_eq_false k0,cF]
      by_cases c:e>f
      · rw [decide_eq_true c,cT]
        unfold Bo4
        rw [El1 (Bk1 k) (by omega),Av6,Option.bind_some,decide_eq_false k0,cF,El1 (Bk1 n) (by omega),Av6,Option.bind_some,decide_eq_false n0,cF,Aa8 (by rw [decide_eq_false_iff_not];omega)]
        obtain ⟨u,p,h1,h2⟩:=Ej1 (s:=t) (t:=s) hk hn (show f≤e by omega) hf1 he2
        rw [h1,Option.bind_some]
        exact ⟨u,p,f,rfl,by omega,by omega,fun K hK1 hK2=>by rw [h2 K hK2];omega⟩
      · rw [decide_eq_false c,cF]
        obtain ⟨u,p,h1,h2⟩:=Ej1 (s:=s) (t:=t) hn hk (show e≤f by omega) he1 hf2
        rw [h1]
        exact ⟨u,p,e,rfl,by omega,by omega,fun K hK1 hK2=>h2 K hK1⟩
theorem Gi9 (K:Int) (s:Bool) (n:Nat) (e:Int):nv K (!s) n e = - nv K s n e:=by
  unfold nv sgN
  cases s<;>simp [Int.neg_mul]
theorem Hf5 (K:Int) (s:Bool) (n:Nat) (e:Int):(nv K s n e).natAbs=n*2^(e-K).toNat:=by
  unfold nv
  rw [Int.natAbs_mul,Int.natAbs_natCast,Db0]
theorem Gn0 {a b:Nat} (h:a≤b):blN a≤blN b:=An8.2 (Nat.lt_of_le_of_lt h (An8.1 (Nat.le_refl _)))
end Go.Eng
/-
  Exact numbers, as the document reckons with them: products by value. No condition.
-/
set_option maxRecDepth 100000
set_option maxHeartbeats 400000
set_option exponentiation.threshold 70000
namespace Go.Eng
open Go
theorem Ha2 {s t:Bool} {n k:Nat} {e f:Int} (hn:blN n≤33554432) (hk:blN k≤33554432) (he1 : -33554432≤e) (he2:e≤33554432) (hf1 : -33554432≤f) (hf2:f≤33554432) :
    Bh1 s (LW n) e t (LW k) f=some (!(s==t),LW (n*k),e+f):=by
  have l1:=LWl hn
  have l2:=LWl hk
  unfold Bh1
  rw [Gm0 (Bk1 n) (Bk1 k) (by omega) (by omega),Av6,Av6,Option.bind_some,wrI (by omega) (by omega)]
theorem Gi3 (s t:Bool) (n k:Nat):sgN (!(s==t)) (n*k)=sgN s n*sgN t k:=by
  unfold sgN
  cases s<;>cases t<;>simp [Int.natCast_mul,Int.neg_mul,Int.mul_neg]
end Go.Eng
