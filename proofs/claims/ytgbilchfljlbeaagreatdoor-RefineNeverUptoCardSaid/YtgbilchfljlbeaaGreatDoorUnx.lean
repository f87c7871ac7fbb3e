/-
  The program's Until on the plain side: it goes on as long as the norm of what is left falls. No condition.
-/
import Derived.Test.YtgbilchfljlbeaaGreatDoorLe
import Derived.Test.YtgbilchfljlbeaaGreatDoorPf2A
import Derived.Test.YtgbilchfljlbeaaGreatDoorPv2
import Derived.Test.YtgbilchfljlbeaaGreatDoorPmR
import Derived.Test.YtgbilchfljlbeaaGreatDoorScl3
set_option linter.all false
set_option maxRecDepth 100000
set_option maxHeartbeats 400000
namespace Go.Eng
open Go
theorem fgt_gd {x y:Nat} (hx:goodF x) (hy:goodF y):fgt x y=decide (y<x):=by
  unfold fgt
  rw [order_good hx hy]
  rcases Nat.lt_trichotomy x y with c | c | c
  · rw [Nat.compare_eq_lt.2 c,decide_eq_false (by omega)];rfl
  · rw [Nat.compare_eq_eq.2 c,decide_eq_false (by omega)];rfl
  · rw [Nat.compare_eq_gt.2 c,decide_eq_true c];rfl
theorem flt_gd {x y:Nat} (hx:goodF x) (hy:goodF y):flt x y=decide (x<y):=by
  unfold flt
  rw [order_good hx hy]
  rcases Nat.lt_trichotomy x y with c | c | c
  · rw [Nat.compare_eq_lt.2 c,decide_eq_true c];rfl
  · rw [Nat.compare_eq_eq.2 c,decide_eq_false (by omega)];rfl
  · rw [Nat.compare_eq_gt.2 c,decide_eq_false (by omega)];rfl
theorem feq_gd {x y:Nat} (hx:goodF x) (hy:goodF y):feq x y=decide (x=y):=by
  unfold feq
  rw [order_good hx hy]
  rcases Nat.lt_trichotomy x y with c | c | c
  · rw [Nat.compare_eq_lt.2 c,decide_eq_false (by omega)];rfl
  · rw [Nat.compare_eq_eq.2 c,decide_eq_true c];rfl
  · rw [Nat.compare_eq_gt.2 c,decide_eq_false (by omega)];rfl
theorem fge_gd {x y:Nat} (hx:goodF x) (hy:goodF y):(fgt x y||feq x y) = !decide (x<y):=by
  rw [fgt_gd hx hy,feq_gd hx hy,Bool.eq_iff_iff]
  simp;omega
def normN (a:List Nat):Nat→Nat
  | 0=>0
  | i+1=>nf (addV (normN a i) (nf (magF (a.getD i 0))) 2)
theorem vnorm_t {a:List Nat} (ha:a.length≤1048576):T_vector_Norm a=some (normN a a.length):=by
  unfold T_vector_Norm
  simp only [Option.bind_some]
  have:=iter_nat (b:=T_vector_Norm_b2 ((a.length:Nat):Int) a) (fun i=>(normN a i,((i:Nat):Int))) (o:=normN a a.length) a.length (by rw [FU_eq];omega) (fun i hi=>by
    unfold T_vector_Norm_b2
    dsimp only
    rw [cond_t (by simp;omega),at_getD 0 hi]
    simp only [Option.bind_some,abs_t,vsum_t (m:=2) (by decide) (by decide)]
    rw [wrU (by omega)];rfl) (by
    unfold T_vector_Norm_b2
    dsimp only
    rw [cond_f (by simp)])
  have this:iter (T_vector_Norm_b2 ((a.length:Nat):Int) a) FU (0,0)=some (normN a a.length):=this
  rw [nf_zero,this];rfl
theorem norm_gd {a:List Nat} (h:allF a=true):∀ i,i≤a.length→goodF (normN a i)
  | 0,_=>by unfold goodF normN;omega
  | i + 1, hi => by
    have h1:=allF_at h (show i<a.length by omega)
    have e:normN a (i+1)=nf (addV (normN a i) (magF (a.getD i 0)) 2):=by
      show nf (addV (normN a i) (nf (magF (a.getD i 0))) 2)=_
      rw [nf_fin (x:=magF (a.getD i 0)) (by rw [magF_magF];omega)]
    have key:=addV_good (norm_gd h i (by omega)) (b:=magF (a.getD i 0)) (by rw [magF_magF];exact h1) (sval_mag _)
    rw [e,nf_of_not (good_nan key)]
    exact key
section
variable (r c:Int) (A:List Nat) (q:Int) (l d b:List Nat)
def nvx (x:List Nat):Nat:=normN (leftF r c A x b).1 (leftF r c A x b).1.length
theorem leftF_some (x:List Nat):(leftF r c A x b).1.length≤48∧allF (leftF r c A x b).1=true:=by
  unfold leftF
  by_cases h:fitL r c A x b=true
  · obtain ⟨m,n,rfl,rfl,h1,_⟩:=fitL_nat h
    rw [if_pos h]
    split
    · split
      · rename_i h3
        exact ⟨by simp only [leftL_len,Int.toNat_natCast];exact h1,h3⟩
      · exact ⟨by simp,rfl⟩
    · exact ⟨by simp,rfl⟩
  · rw [if_neg h]
    exact ⟨by simp,rfl⟩
theorem nvx_gd (x:List Nat):goodF (nvx r c A b x):=norm_gd (leftF_some r c A b x).2 _ (Nat.le_refl _)
theorem nvx_t (x:List Nat):T_vector_Norm (leftF r c A x b).1=some (nvx r c A b x):=vnorm_t (by have:=(leftF_some r c A b x).1;omega)
def stepU (x:List Nat):List Nat×Int:=(T_refine_Step r c A q l d x b).getD ([],0)
def goU:Nat→List Nat→List Nat×Nat
  | 0,x=>(x,0)
  | k + 1, x =>
    if (stepU r c A q l d b x).2=0∧(leftF r c A (stepU r c A q l d b x).1 b).2=0∧nvx r c A b (stepU r c A q l d b x).1<nvx r c A b x then
      ((goU k (stepU r c A q l d b x).1).1,(goU k (stepU r c A q l d b x).1).2+1)
    else (x,0)
theorem goU_le:∀ k x,(goU r c A q l d b k x).2≤k
  | 0,_=>Nat.le_refl _
  | k + 1, x => by
    unfold goU
    split
    · have:=goU_le k (stepU r c A q l d b x).1
      show _+1≤_
      omega
    · exact Nat.zero_le _
theorem goU_less:∀ k x,(leftF r c A x b).2=0→(leftF r c A (goU r c A q l d b k x).1 b).2=0∧nvx r c A b (goU r c A q l d b k x).1≤nvx r c A b x∧(0<(goU r c A q l d b k x).2→nvx r c A b (goU r c A q l d b k x).1<nvx r c A b x)∧((goU r c A q l d b k x).2=0→(goU r c A q l d b k x).1=x)
  | 0,x,h=>⟨h,Nat.le_refl _,fun h=>absurd h (Nat.lt_irrefl _),fun _=>rfl⟩
  | k + 1, x, h => by
    unfold goU
    split
    · rename_i c1
      obtain ⟨c1,c2,c3⟩:=c1
      obtain ⟨a1,a2,a3,a4⟩:=goU_less k (stepU r c A q l d b x).1 c2
      exact ⟨a1,by show nvx r c A b (goU r c A q l d b k _).1≤_;omega,fun _=>by show nvx r c A b (goU r c A q l d b k _).1<_;omega,fun h=>by cases h⟩
    · exact ⟨h,Nat.le_refl _,fun h=>absurd h (Nat.lt_irrefl _),fun _=>rfl⟩
theorem goU_next:∀ k x,goU r c A q l d b (k+1) x=goU r c A q l d b k x∨((goU r c A q l d b k x).2=k∧(goU r c A q l d b (k+1) x).2=k+1∧nvx r c A b (goU r c A q l d b (k+1) x).1<nvx r c A b (goU r c A q l d b k x).1)
  | 0, x => by
    unfold goU goU
    split
    · rename_i c1
      exact .inr ⟨rfl,rfl,c1.2.2⟩
    · exact .inl rfl
  | k + 1, x => by
    have e:∀ k,goU r c A q l d b (k+1) x=if (stepU r c A q l d b x).2=0∧(leftF r c A (stepU r c A q l d b x).1 b).2=0∧nvx r c A b (stepU r c A q l d b x).1<nvx r c A b x then
      ((goU r c A q l d b k (stepU r c A q l d b x).1).1,(goU r c A q l d b k (stepU r c A q l d b x).1).2+1)
    else (x,0):=fun k=>rfl
    rw [e,e]
    split
    · rcases goU_next k (stepU r c A q l d b x).1 with h | ⟨h1,h2,h3⟩
      · rw [h];exact .inl rfl
      · exact .inr ⟨by show _+1=_;omega,by show _+1=_;omega,h3⟩
    · exact .inl rfl
def StepX:Prop:=∀ x:List Nat,x.length≤1048576→(∀ p∈x,p<18446744073709551616)→∃ y e,T_refine_Step r c A q l d x b=some (y,e)∧y.length≤48∧(e=0→∀ p∈y,p<18446744073709551616)
theorem until_loop (kA:A.length≤1048576) (kb:b.length≤1048576) (hs:StepX r c A q l d b):∀ k j x fuel,k<fuel→j+k≤64→x.length≤1048576→(∀ p∈x,p<18446744073709551616) →
    iter (T_refine_Until_b2 ((j+k:Nat):Int) r c A q l d b) fuel (nvx r c A b x,(j:Int),x)=some (if (goU r c A q l d b k x).2=k then .inl (goU r c A q l d b k x).1 else .inr ((goU r c A q l d b k x).1,((j+(goU r c A q l d b k x).2:Nat):Int),0))
  | 0, j, x, fuel, hf, hj, hx, wx => by
    obtain ⟨m,rfl⟩:∃ m,fuel=m+1:=⟨fuel-1,by omega⟩
    rw [iter_succ]
    unfold T_refine_Until_b2
    dsimp only
    rw [cond_f (by rw [decide_eq_false_iff_not];omega)]
    rfl
  | k + 1, j, x, fuel, hf, hj, hx, wx => by
    obtain ⟨m,rfl⟩:∃ m,fuel=m+1:=⟨fuel-1,by omega⟩
    obtain ⟨y,e,s1,s2,s3⟩:=hs x hx wx
    have e1:stepU r c A q l d b x=(y,e):=by unfold stepU;rw [s1];rfl
    have eb:T_refine_Until_b2 ((j+(k+1):Nat):Int) r c A q l d b (nvx r c A b x,(j:Int),x)=if e=0∧(leftF r c A y b).2=0∧nvx r c A b y<nvx r c A b x then some (.inl (nvx r c A b y,((j+1:Nat):Int),y)) else some (.inr (.inr (x,(j:Int),0))):=by
      unfold T_refine_Until_b2
      dsimp only
      rw [cond_t (by rw [decide_eq_true_eq];omega),s1,Option.bind_some]
      dsimp only
      by_cases he:e=0
      · rw [cond_f (by simpa using he),xleft_t r c kA (by omega) kb,Option.bind_some]
        by_cases hl:(leftF r c A y b).2=0
        · rw [cond_t (by simpa using hl),nvx_t]
          simp only [Option.bind_some]
          rw [fge_gd (nvx_gd r c A b y) (nvx_gd r c A b x),wrU (by omega)]
          by_cases hn:nvx r c A b y<nvx r c A b x
          · rw [decide_eq_true hn,if_pos ⟨he,hl,hn⟩];rfl
          · rw [decide_eq_false hn,if_neg (fun h=>hn h.2.2)];rfl
        · rw [cond_f (by simpa using hl),if_neg (fun h=>hl h.2.1)]
      · rw [cond_t (by simpa using he),if_neg (fun h=>he h.1)]
    rw [iter_succ,eb]
    unfold goU
    rw [e1]
    dsimp only
    by_cases hc:e=0∧(leftF r c A y b).2=0∧nvx r c A b y<nvx r c A b x
    · rw [if_pos hc,if_pos hc]
      dsimp only
      have ih:=until_loop kA kb hs k (j+1) y m (by omega) (by omega) (by omega) (s3 hc.1)
      rw [show j+(k+1)=j+1+k by omega,ih]
      by_cases hk:(goU r c A q l d b k y).2=k
      · rw [if_pos hk,if_pos (by omega)]
      · rw [if_neg hk,if_neg (by omega),show j+1+(goU r c A q l d b k y).2=j+((goU r c A q l d b k y).2+1) by omega]
    · rw [if_neg hc,if_neg hc]
      dsimp only
      rw [if_neg (by omega)];rfl
def untilF (x:List Nat) (e:Int) (most:Int):List Nat×Int×Int:=
  if most<0∨64<most then ([],0,2)
  else if ¬ (T_refine_fits r c A q l d=some true∧((b.length:Nat):Int)=r) then ([],0,4)
  else if ¬ (allF A&&allF b)=true then ([],0,5)
  else if e≠0 then ([],0,e)
  else if ¬ allF x=true then ([],0,6)
  else if (leftF r c A x b).2≠0 then ([],0,(leftF r c A x b).2)
  else ((goU r c A q l d b most.toNat x).1,(((goU r c A q l d b most.toNat x).2:Nat):Int),0)
theorem fits_some:T_refine_fits r c A q l d=some false∨T_refine_fits r c A q l d=some true:=by
  unfold T_refine_fits
  rw [mright_t,Option.bind_some]
  cases rightB r c A.length with
  | false=>exact .inl rfl
  | true =>
    rw [cT]
    rcases right_cases q l d with ⟨h,_⟩ | h
    · rw [h,Option.bind_some,cT]
      cases r==q
      · exact .inl rfl
      · cases hc:c==q
        · exact .inl (by simp [hc])
        · exact .inr (by simp [hc])
    · rw [h];exact .inl rfl
theorem until_x (kA:A.length≤1048576) (kb:b.length≤1048576) (hs:StepX r c A q l d b) {x:List Nat} {e:Int} (h1:T_solve_Solve q l d b=some (x,e)) (h2:x.length≤48) (h3:∀ p∈x,p<18446744073709551616) (most:Int) :
    T_refine_Until r c A q l d b most=some (untilF r c A q l d b x e most):=by
  unfold T_refine_Until untilF
  by_cases c0:most<0
  · rw [decide_eq_true c0,if_pos (.inl c0)];rfl
  · by_cases c1:64<most
    · rw [decide_eq_false c0,if_pos (.inr c1),Bool.not_false,cT,decide_eq_true (show most>64 from c1)];rfl
    · rw [decide_eq_false c0,if_neg (by omega),Bool.not_false,cT,decide_eq_false (show ¬ most>64 from c1),Option.bind_some,cF]
      rcases fits_some r c A q l d with hf | hf
      · rw [hf,if_pos (by simp)];rfl
      · rw [hf,Option.bind_some,Bool.not_true,Bool.not_false,cT,Option.bind_some,Option.bind_some]
        by_cases hb:((b.length:Nat):Int)=r
        · rw [cond_f (by simpa using hb),if_neg (by simp [hb]),Option.bind_some,refin_t (by simp) (by simp;omega),Option.bind_some]
          have e0 : [A,b].all allF=(allF A&&allF b):=by simp
          rw [e0]
          cases hg:allF A&&allF b with
          | false=>rw [if_pos (by simp)];rfl
          | true =>
            rw [Bool.not_true,cF,if_neg (by simp),h1,Option.bind_some]
            dsimp only
            by_cases he:e=0
            · rw [cond_f (by simpa using he),if_neg (by simp [he]),Option.bind_some,refin_t (by simp) (by simp;omega),Option.bind_some]
              have e1 : [x].all allF=allF x:=by simp
              rw [e1]
              cases hx:allF x with
              | false=>rw [if_pos (by simp)];rfl
              | true =>
                rw [Bool.not_true,cF,if_neg (by simp),xleft_t r c kA (by omega) kb,Option.bind_some]
                by_cases hl:(leftF r c A x b).2=0
                · rw [cond_f (by simpa using hl),if_neg (by simpa using hl),nvx_t,Option.bind_some]
                  have hm:((0+most.toNat:Nat):Int)=most:=by omega
                  have:=until_loop r c A q l d b kA kb hs most.toNat 0 x FU (by rw [FU_eq];omega) (by omega) (by omega) h3
                  rw [hm] at this
                  have this:iter (T_refine_Until_b2 most r c A q l d b) FU (nvx r c A b x,0,x)=_:=this
                  rw [this,Option.bind_some]
                  by_cases hk:(goU r c A q l d b most.toNat x).2=most.toNat
                  · rw [if_pos hk]
                    dsimp only
                    rw [hk,show ((most.toNat:Nat):Int)=most by omega]
                  · rw [if_neg hk]
                    dsimp only
                    rw [Nat.zero_add]
                · rw [cond_t (by simpa using hl),if_pos (by simpa using hl)];rfl
            · rw [cond_t (by simpa using he),if_pos (by simpa using he)];rfl
        · rw [cond_t (by simpa using hb),if_pos (by simp [hb])];rfl
end
end Go.Eng
