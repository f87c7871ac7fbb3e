
/-
  What is left of a system, as an exact sum: the program's way and the document's way on the plain side. No condition.
-/
import Derived.Test.YtgbilchfljlbeaaGreatDoorOf
import Derived.Test.YtgbilchfljlbeaaGreatDoorRr
import Derived.Test.YtgbilchfljlbeaaGreatDoorRv
import Derived.Test.YtgbilchfljlbeaaGreatDoorRt
import Derived.Test.YtgbilchfljlbeaaGreatDoorNr4
import Derived.Test.YtgbilchfljlbeaaGreatDoorPmA
import Derived.Test.YtgbilchfljlbeaaGreatDoorFlz3
set_option linter.all false
set_option maxRecDepth 100000
set_option maxHeartbeats 400000
set_option exponentiation.threshold 140000
namespace Go.Eng
open Go
theorem all_loop {α:Type} (d:α) {p:α→Bool} {l:List α} {B:Int→Option (Int⊕(Unit⊕Bool))} (hl:l.length<FU)
    (hs:∀ i,i<l.length→B (i:Int)=some (if p (l.getD i d) then .inl ((i+1:Nat):Int) else .inr (.inr false))) (he:B ((l.length:Nat):Int)=some (.inr (.inl ()))) :
    iter B FU 0=some (if l.all p then .inl () else .inr false):=by
  have key:∀ n i m,i+n=l.length→n<m→iter B m ((i:Nat):Int)=some (if (l.drop i).all p then .inl () else .inr false):=by
    intro n
    induction n with
    | zero =>
      intro i m h1 h2
      obtain ⟨m',rfl⟩:∃ m',m=m'+1:=⟨m-1,by omega⟩
      rw [iter_succ,show i=l.length by omega,he,List.drop_length];rfl
    | succ n ih =>
      intro i m h1 h2
      obtain ⟨m',rfl⟩:∃ m',m=m'+1:=⟨m-1,by omega⟩
      have hi:i<l.length:=by omega
      have e:l.drop i=l.getD i d::l.drop (i+1):=by
        rw [List.drop_eq_getElem_cons hi,List.getD_eq_getElem?_getD,List.getElem?_eq_getElem hi];rfl
      rw [iter_succ,hs i hi,e,List.all_cons]
      cases p (l.getD i d) with
      | true =>
        rw [if_pos rfl,Bool.true_and]
        exact ih (i+1) m' (by omega) (by omega)
      | false=>rfl
  have:=key l.length 0 FU (by omega) hl
  rw [List.drop_zero] at this
  exact this
def allF (l:List Nat):Bool:=l.all fun x=>decide (magF x<9218868437227405312)
theorem allF_at {l:List Nat} (h:allF l=true) {i:Nat} (hi:i<l.length):magF (l.getD i 0)<9218868437227405312:=by
  unfold allF at h
  rw [List.all_eq_true] at h
  rw [List.getD_eq_getElem?_getD,List.getElem?_eq_getElem hi]
  exact of_decide_eq_true (h _ (List.getElem_mem hi))
theorem allF_of {l:List Nat} (h:∀ i,i<l.length→magF (l.getD i 0)<9218868437227405312):allF l=true:=by
  unfold allF
  rw [List.all_eq_true]
  intro x hx
  obtain ⟨i,hi,rfl⟩:=List.mem_iff_getElem.1 hx
  have:=h i hi
  rw [List.getD_eq_getElem?_getD,List.getElem?_eq_getElem hi] at this
  exact decide_eq_true this
def sumZ (z:Nat→Int):Nat→Int
  | 0=>0
  | n+1=>sumZ z n+z n
theorem sumZ_le {z:Nat→Int} {P:Nat}:∀ {n:Nat},(∀ j,j<n→(z j).natAbs≤P)→(sumZ z n).natAbs≤n*P
  | 0,_=>by simp [sumZ]
  | n + 1, h => by
    have h1:=sumZ_le (z:=z) (P:=P) (n:=n) fun j hj=>h j (by omega)
    have h2:=h n (by omega)
    rw [Nat.succ_mul]
    show (sumZ z n+z n).natAbs≤_
    omega
theorem sumZ_congr {z y:Nat→Int}:∀ {n:Nat},(∀ j,j<n→z j=y j)→sumZ z n=sumZ y n
  | 0,_=>rfl
  | n + 1, h => by
    show sumZ z n+z n=sumZ y n+y n
    rw [sumZ_congr fun j hj=>h j (by omega),h n (by omega)]
theorem sumZ_head (z:Nat→Int):∀ n,sumZ z (n+1)=z 0+sumZ (fun j=>z (j+1)) n
  | 0=>by simp [sumZ]
  | n + 1 => by
    show sumZ z (n+1)+z (n+1)=z 0+(sumZ (fun j=>z (j+1)) n+z (n+1))
    rw [sumZ_head z n,Int.add_assoc]
theorem sumZ_neg (z:Nat→Int):∀ n,sumZ (fun j => - z j) n = - sumZ z n
  | 0=>rfl
  | n + 1 => by
    show sumZ (fun j => - z j) n + - z n = - (sumZ z n+z n)
    rw [sumZ_neg z n];omega
theorem sval_lt {x:Nat} (h:magF x<9218868437227405312):(sval x).natAbs<2^2098:=by
  have e:vmag 9218868437227405312=2^2098:=by decide +kernel
  have:=vmag_lt h
  rw [e] at this
  unfold sval
  generalize 2^2098=P at *
  split<;>omega
theorem prod_lt {x y:Nat} (h:magF x<9218868437227405312) (k:magF y<9218868437227405312):(sval x*sval y).natAbs≤2^4196:=by
  rw [Int.natAbs_mul,show 4196=2098+2098 from rfl,Nat.pow_add]
  exact Nat.mul_le_mul (Nat.le_of_lt (sval_lt h)) (Nat.le_of_lt (sval_lt k))
theorem small_bl {z:Int} {n:Nat} (hn:n≤128) (h:z.natAbs≤n*2^4196):blN z.natAbs≤4204:=by
  refine blN_le.2 ?_
  have:n*2^4196≤128*2^4196:=Nat.mul_le_mul_right _ hn
  rw [show 4204=8+4196 from rfl,Nat.pow_add,show (2:Nat)^8=256 from rfl]
  have:=Nat.two_pow_pos 4196
  generalize 2^4196=P at *
  omega
def dotE (a x:List Nat) (n:Nat):Int:=sumZ (fun j=>sval (a.getD j 0)*sval (x.getD j 0)) n
def Dz (s:Bool) (l:List Int) (e:Int) (z:Int):Prop:=Gd s l e∧nD s l e=z*((2^63388:Nat):Int)
theorem cano_dz {z:Int} (h:blN z.natAbs≤16384):∃ s l f,cano z (-2148)=(s,l,f,0)∧Dz s l f z:=by
  obtain ⟨s,l,f,h1,h2,h3⟩:=cano_small h (e := -2148) (by decide) (by decide)
  exact ⟨s,l,f,h1,h2,h3⟩
theorem dmul_dz {x y:Nat} (hx:magF x<9218868437227405312) (hy:magF y<9218868437227405312):∃ s l f s' l' f' t m g,T_dyad_Of x=some (s,l,f,0)∧T_dyad_Of y=some (s',l',f',0)∧T_dyad_Mul s l f s' l' f'=some (t,m,g,0)∧Dz t m g (sval x*sval y):=by
  obtain ⟨s,l,f,h1,h2,h3⟩:=of_num hx
  obtain ⟨s',l',f',k1,k2,k3⟩:=of_num hy
  obtain ⟨t,m,g,m1,m2⟩:=cano_dz (z:=sval x*sval y) (Nat.le_trans (small_bl (n:=1) (by decide) (by rw [Nat.one_mul];exact prod_lt hx hy)) (by decide))
  refine ⟨s,l,f,s',l',f',t,m,g,h1,k1,?_,m2⟩
  rw [dmul_t h2 k2,h3,k3,← m1,← cano_shift (sval x*sval y) (-2148) (64462+64462),Nat.pow_add]
  generalize (2^64462:Nat)=P
  rw [Int.natCast_mul]
  congr 2
  ac_rfl
theorem dadd_dz {s t:Bool} {l m:List Int} {e f y z:Int} (h:Dz s l e y) (k:Dz t m f z) (hb:blN (y+z).natAbs≤16384):∃ u n g,T_dyad_Add s l e t m f=some (u,n,g,0)∧Dz u n g (y+z):=by
  obtain ⟨u,n,g,m1,m2⟩:=cano_dz hb
  refine ⟨u,n,g,?_,m2⟩
  rw [dadd_t h.1 k.1,h.2,k.2,← m1,← cano_shift (y+z) (-2148) 63388,Int.add_mul];rfl
theorem round_dz {s:Bool} {l:List Int} {e z:Int} (h:Dz s l e z) (m:Int):T_dyad_Round s l e m=some (rV z (-2148) m,0):=by
  rw [round_v h.1,h.2,rV_shift];rfl
theorem sfin_t {l:List Nat} (hl:l.length≤1099511627776):T_sums_finite l=some (allF l):=by
  unfold T_sums_finite
  simp only [Option.bind_some]
  rw [all_loop 0 (p:=fun x=>decide (magF x<9218868437227405312)) (l:=l) (by rw [FU_eq];omega) (fun i hi=>?_) ?_]
  · unfold allF
    cases l.all fun x=>decide (magF x<9218868437227405312)<;>rfl
  · unfold T_sums_finite_b2
    dsimp only
    rw [cond_f (by rw [decide_eq_false_iff_not];omega)]
  · unfold T_sums_finite_b2
    dsimp only
    rw [cond_t (by rw [decide_eq_true_eq];omega),at_getD 0 hi,Option.bind_some]
    generalize l.getD i 0=x
    by_cases hn:magF x≤9218868437227405312
    · rw [isnan_e hn,Option.bind_some,Bool.not_false,cT,inf_e hn,Option.bind_some]
      by_cases c:magF x=9218868437227405312
      · rw [decide_eq_true c,cT,decide_eq_false (by omega)];rfl
      · rw [decide_eq_false c,cF,decide_eq_true (by omega),wrU (by omega)];rfl
    · have:T_math_IsNaN x=some true:=by
        unfold T_math_IsNaN
        rw [feq_self,isNaN_mag,decide_eq_true (by omega)];rfl
      rw [this,Option.bind_some,Bool.not_true,cF,decide_eq_false (by omega)];rfl
theorem dotx_t {a x:List Nat} {m:Int} (hl:a.length=x.length) (hn:a.length≤128) (ha:allF a=true) (hx:allF x=true):T_sums_DotExact a x m=some (rV (dotE a x a.length) (-2148) m,0):=by
  have bound:∀ n,n≤a.length→blN (dotE a x n).natAbs≤16384:=fun n hn'=>
    Nat.le_trans (small_bl (n:=n) (by omega) (sumZ_le fun j hj=>prod_lt (allF_at ha (by omega)) (allF_at hx (by omega)))) (by decide)
  unfold T_sums_DotExact T_sums_total
  simp only [Option.bind_some]
  rw [cond_f (by rw [bne_eq_false_iff_eq];omega),sfin_t (by omega),sfin_t (by omega),ha,hx]
  simp only [Option.bind_some,Bool.not_true,Bool.not_false,cT,cF]
  have i0:T_dyad_Int 0=some (false,[],0):=by decide +kernel
  rw [i0,Option.bind_some]
  dsimp only
  obtain ⟨o,h1,h2⟩:=iter_inv (b:=T_sums_total_b2 ((a.length:Nat):Int) (fun v0=>T_sums_DotExact_1 v0 a x)) (fun i st=>∃ s l e,st=(((i:Nat):Int),s,e,l)∧Dz s l e (dotE a x i)) a.length (fun o=>∃ s l e,o=(s,e,l)∧Dz s l e (dotE a x a.length)) (by rw [FU_eq];omega) (by
    rintro i st hi ⟨s,l,e,rfl,hd⟩
    obtain ⟨s1,l1,f1,s2,l2,f2,t,m',g,o1,o2,o3,o4⟩:=dmul_dz (allF_at ha hi) (allF_at hx (show i<x.length by omega))
    obtain ⟨u,n,g',d1,d2⟩:=dadd_dz hd o4 (bound (i+1) (by omega))
    refine ⟨(((i+1:Nat):Int),u,g',n),?_,u,n,g',rfl,d2⟩
    unfold T_sums_total_b2 T_sums_DotExact_1
    dsimp only
    rw [cond_t (by rw [decide_eq_true_eq];omega),at_getD 0 hi,Option.bind_some,o1,Option.bind_some]
    dsimp only
    rw [at_getD 0 (show i<x.length by omega),Option.bind_some,o2,Option.bind_some]
    dsimp only
    rw [o3,Option.bind_some,Option.bind_some]
    dsimp only
    rw [d1,Option.bind_some,wrU (by omega)]) (by
    rintro st ⟨s,l,e,rfl,hd⟩
    refine ⟨(s,e,l),?_,s,l,e,rfl,hd⟩
    unfold T_sums_total_b2
    dsimp only
    rw [cond_f (by rw [decide_eq_false_iff_not];omega)]) (s0:=(0,false,0,[])) ⟨false,[],0,rfl,.inl ⟨rfl,rfl,rfl⟩,by unfold nD zD sgN lv dotE sumZ;simp⟩
  obtain ⟨s,l,e,rfl,hd⟩:=h2
  rw [h1]
  simp only [Option.bind_some]
  rw [round_dz hd,Option.bind_some]
end Go.Eng
/-
  What is left of a system: the program's Left and the document's Left are one function. No condition.
-/
set_option maxRecDepth 100000
set_option maxHeartbeats 400000
set_option exponentiation.threshold 140000
namespace Go.Eng
open Go
def resid (A X b:List Nat) (c i:Nat):Int:=sval (b.getD i 0)*((2^1074:Nat):Int)-sumZ (fun j=>sval (A.getD (i*c+j) 0)*sval (X.getD j 0)) c
def leftL (A X b:List Nat) (r c:Nat):List Nat:=(List.range r).map fun i=>rV (resid A X b c i) (-2148) 0
theorem leftL_len (A X b:List Nat) (r c:Nat):(leftL A X b r c).length=r:=by simp [leftL]
def fitL (r c:Int) (A X b:List Nat):Bool:=rightB r c A.length&&(((X.length:Nat):Int)==c)&&(((b.length:Nat):Int)==r)
def leftF (r c:Int) (A X b:List Nat):List Nat×Int:=
  if fitL r c A X b then (if allF A&&allF X&&allF b then (if allF (leftL A X b r.toNat c.toNat) then (leftL A X b r.toNat c.toNat,0) else ([],6)) else ([],5)) else ([],4)
theorem rfit_e (r c:Int) (A X b:List Nat):T_refine_fit r c A X b=some (fitL r c A X b):=by
  unfold T_refine_fit fitL
  rw [mright_t]
  simp only [Option.bind_some]
  cases rightB r c A.length
  · rfl
  · rw [cT,Bool.true_and]
    cases ((X.length:Nat):Int)==c<;>rfl
theorem fitL_nat {r c:Int} {A X b:List Nat} (h:fitL r c A X b=true):∃ m n:Nat,r=m∧c=n∧m≤48∧n≤48∧A.length=m*n∧m*n≤2304∧X.length=n∧b.length=m:=by
  unfold fitL at h
  simp only [Bool.and_eq_true,beq_iff_eq] at h
  obtain ⟨⟨h1,h2⟩,h3⟩:=h
  obtain ⟨m,n,rfl,rfl,a1,a2,a3,a4⟩:=rightB_nat h1
  exact ⟨m,n,rfl,rfl,a1,a2,a3,a4,by omega,by omega⟩
theorem fin7_t {l:List Nat} (hl:l.length≤1099511627776):iter (T_refine_finite_b7 ((l.length:Nat):Int) l) FU 0=some (if allF l then .inl () else .inr false):=by
  refine all_loop 0 (p:=fun x=>decide (magF x<9218868437227405312)) (l:=l) (by rw [FU_eq];omega) (fun i hi=>?_) ?_
  · unfold T_refine_finite_b7
    dsimp only
    rw [cond_t (by rw [decide_eq_true_eq];omega),at_getD 0 hi]
    simp only [Option.bind_some,nf_zero,finite_sub,wrU (show i+1<9223372036854775808 by omega)]
    cases decide (magF (l.getD i 0)<9218868437227405312)<;>rfl
  · unfold T_refine_finite_b7
    dsimp only
    rw [cond_f (by rw [decide_eq_false_iff_not];omega)]
theorem refin_t {L:List (List Nat)} (hL:L.length≤1000) (hl:∀ l∈L,l.length≤1099511627776):T_refine_finite L=some (L.all allF):=by
  unfold T_refine_finite
  simp only [Option.bind_some]
  rw [all_loop [] (p:=allF) (l:=L) (by rw [FU_eq];omega) ?_ ?_]
  · cases L.all allF<;>rfl
  · intro i hi
    unfold T_refine_finite_b5
    dsimp only
    have hm:L.getD i []∈L:=by
      rw [List.getD_eq_getElem?_getD,List.getElem?_eq_getElem hi];exact List.getElem_mem hi
    rw [cond_t (by rw [decide_eq_true_eq];omega),at_getD [] hi]
    simp only [Option.bind_some]
    rw [fin7_t (hl _ hm),wrU (by omega)]
    cases allF (L.getD i [])<;>rfl
  · unfold T_refine_finite_b5
    dsimp only
    rw [cond_f (by rw [decide_eq_false_iff_not];omega)]
theorem one_sval:sval 4607182418800017408=((2^1074:Nat):Int):=by decide +kernel
theorem one_nf:nf 4607182418800017408=4607182418800017408:=by decide +kernel
theorem neg_sval (x:Nat):sval (fneg x) = - sval x:=by
  unfold sval
  rw [fneg_mag,fneg_neg]
  cases negF x<;>simp
def rowN (A:List Nat) (c i:Nat):List Nat:=(List.range c).map fun j=>nf (fneg (A.getD (i*c+j) 0))
theorem rowN_at {A:List Nat} {c i j:Nat} (h:j<c):(rowN A c i).getD j 0=nf (fneg (A.getD (i*c+j) 0)):=by
  simp [rowN,List.getD_eq_getElem?_getD,h]
theorem row_in {A:List Nat} {m n i j:Nat} (hA:A.length=m*n) (hi:i<m) (hj:j<n):i*n+j<A.length:=by rw [hA];exact idxL hi hj
theorem row_dot {A X b:List Nat} {m n i:Nat} (hA:A.length=m*n) (hi:i<m) (fA:allF A=true):dotE (b.getD i 0::rowN A n i) (4607182418800017408::X) (n+1)=resid A X b n i:=by
  unfold dotE resid
  rw [sumZ_head]
  have e:sumZ (fun j=>sval ((b.getD i 0::rowN A n i).getD (j+1) 0)*sval ((4607182418800017408::X).getD (j+1) 0)) n=sumZ (fun j => - (sval (A.getD (i*n+j) 0)*sval (X.getD j 0))) n:=by
    refine sumZ_congr fun j hj=>?_
    rw [show (b.getD i 0::rowN A n i).getD (j+1) 0=(rowN A n i).getD j 0 from rfl,show (4607182418800017408::X).getD (j+1) 0=X.getD j 0 from rfl,rowN_at hj]
    have:=allF_at fA (row_in hA hi hj)
    rw [nf_fin (by rw [fneg_mag];omega),neg_sval,Int.neg_mul]
  rw [e,sumZ_neg,show (b.getD i 0::rowN A n i).getD 0 0=b.getD i 0 from rfl,show (4607182418800017408::X).getD 0 0=4607182418800017408 from rfl,one_sval]
  omega
theorem row_fin {A b:List Nat} {m n i:Nat} (hA:A.length=m*n) (hi:i<m) (hb:b.length=m) (fA:allF A=true) (fb:allF b=true):allF (b.getD i 0::rowN A n i)=true:=by
  refine allF_of fun k hk=>?_
  cases k with
  | zero=>exact allF_at fb (by omega)
  | succ j =>
    have hj:j<n:=by simp [rowN] at hk;omega
    have:=allF_at fA (row_in hA hi hj)
    rw [show (b.getD i 0::rowN A n i).getD (j+1) 0=(rowN A n i).getD j 0 from rfl,rowN_at hj,nf_fin (by rw [fneg_mag];omega),fneg_mag]
    exact this
theorem one_fin {X:List Nat} (fX:allF X=true):allF (4607182418800017408::X)=true:=by
  unfold allF at *
  rw [List.all_cons,fX];decide
theorem xleft_t (r c:Int) {A X b:List Nat} (kA:A.length≤1048576) (kX:X.length≤1048576) (kb:b.length≤1048576):T_refine_Left r c A X b=some (leftF r c A X b):=by
  unfold T_refine_Left leftF
  rw [rfit_e]
  simp only [Option.bind_some]
  cases hf:fitL r c A X b with
  | false=>rw [Bool.not_false,cT];rfl
  | true =>
    obtain ⟨m,n,rfl,rfl,m48,n48,hA,hmn,hX,hb⟩:=fitL_nat hf
    rw [Bool.not_true,cF,refin_t (by simp) (by simp;omega),Option.bind_some,if_pos rfl]
    have e0 : [A,X,b].all allF=(allF A&&allF X&&allF b):=by simp [Bool.and_assoc]
    rw [e0]
    cases hg:allF A&&allF X&&allF b with
    | false=>rw [Bool.not_false,cT];rfl
    | true =>
      simp only [Bool.and_eq_true] at hg
      obtain ⟨⟨fA,fX⟩,fb⟩:=hg
      rw [Bool.not_true,cF,if_pos rfl,one_nf,app_le (by simp;omega),Option.bind_some,show ([4607182418800017408]:List Nat)++X=4607182418800017408::X from rfl]
      have loop:=iter_nat (b:=T_refine_Left_b7 ((m:Nat):Int) b A ((n:Nat):Int) (4607182418800017408::X)) (fun i=>(((i:Nat):Int),leftL A X b i n)) (o:=leftL A X b m n) m (by rw [FU_eq];omega) (fun i hi=>by
        have hbd:(i+1)*n≤m*n:=Nat.mul_le_mul_right _ hi
        have hbd2:i*n≤(i+1)*n:=Nat.mul_le_mul_right _ (by omega)
        have hbd3:(i+1)*n-i*n=n:=by rw [Nat.succ_mul];omega
        unfold T_refine_Left_b7
        dsimp only
        rw [cond_t (by rw [decide_eq_true_eq];omega),at_getD 0 (show i<b.length by omega)]
        simp only [Option.bind_some]
        rw [wrU (by omega),wrMul (by omega),wrMul (by omega),sub_nat hbd2 (by omega),hbd3,Option.bind_some]
        have hl:((A.drop (i*n)).take n).length=n:=by rw [List.length_take,List.length_drop];omega
        have inner:=iter_nat (b:=T_refine_Left_b9 ((n:Nat):Int) ((A.drop (i*n)).take n)) (fun j=>(((j:Nat):Int),b.getD i 0::(List.range j).map fun j=>nf (fneg (A.getD (i*n+j) 0)))) (o:=b.getD i 0::rowN A n i) n (by rw [FU_eq];omega) (fun j hj=>by
          unfold T_refine_Left_b9
          dsimp only
          have e:((A.drop (i*n)).take n).getD j 0=A.getD (i*n+j) 0:=by
            simp [List.getD_eq_getElem?_getD,List.getElem?_take,hj]
          rw [cond_t (by rw [decide_eq_true_eq];omega),at_getD 0 (by omega),e]
          simp only [Option.bind_some]
          rw [app_le (by simp;omega),Option.bind_some,wrU (by omega),List.cons_append,map_range_snoc (G:=fun j=>nf (fneg (A.getD (i*n+j) 0)))]) (by
          unfold T_refine_Left_b9
          dsimp only
          rw [cond_f (by rw [decide_eq_false_iff_not];omega)];rfl)
        have inner:iter (T_refine_Left_b9 ((n:Nat):Int) ((A.drop (i*n)).take n)) FU (0,[b.getD i 0])=some (b.getD i 0::rowN A n i):=inner
        have hrl:(b.getD i 0::rowN A n i).length=n+1:=by simp [rowN]
        rw [hl,inner,Option.bind_some,dotx_t (by rw [hrl];simp;omega) (by omega) (row_fin hA hi hb fA fb) (one_fin fX),hrl,row_dot hA hi fA]
        simp only [Option.bind_some]
        rw [app_le (by simp [leftL];omega),Option.bind_some]
        unfold leftL
        rw [map_range_snoc (G:=fun i=>rV (resid A X b n i) (-2148) 0)]) (by
        unfold T_refine_Left_b7
        dsimp only
        rw [cond_f (by rw [decide_eq_false_iff_not];omega)])
      have loop:iter (T_refine_Left_b7 ((m:Nat):Int) b A ((n:Nat):Int) (4607182418800017408::X)) FU (0,[])=some (leftL A X b m n):=loop
      rw [show List.map nf []=([]:List Nat) from rfl,loop,Option.bind_some,refin_t (by simp) (by simp [leftL_len];omega),Option.bind_some]
      have e1 : [leftL A X b m n].all allF=allF (leftL A X b m n):=by simp
      rw [e1,Int.toNat_natCast,Int.toNat_natCast]
      cases allF (leftL A X b m n)<;>rfl
end Go.Eng
