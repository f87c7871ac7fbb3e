/-
  The law InertiaNumbers is true. No condition.
-/
import Derived.Test.YtlnelldekejadaaIn9a
import Derived.Test.YtlnelldekejadaaLw0
set_option linter.all false
set_option maxRecDepth 100000
set_option maxHeartbeats 4000000
namespace Go.Eng
open Go Go.Ine
theorem pw_t {k:Nat} (h:chkA k=true):∃ l,T_r02_Add false [1] (k:Int) false [1] 0=some (false,l,0,0)∧GdD (false,l,0)∧nDD (false,l,0)=((2^k+1:Nat):Int)*((2^((0:Int)+65536).toNat:Nat):Int):=by
  unfold chkA at h
  split at h
  · rename_i s l e c hA
    simp only [Bool.and_eq_true,Bool.not_eq_true',beq_iff_eq,List.all_eq_true,decide_eq_true_eq] at h
    obtain ⟨⟨⟨⟨⟨⟨h1,h2⟩,h3⟩,h4⟩,h5⟩,h6⟩,h7⟩:=h
    subst h1 h2 h3
    refine ⟨l,hA,?_,?_⟩
    · obtain ⟨b,g1,g2⟩:=dright_t (s:=false) (e:=0) (fun x hx=>h6 x hx) (by omega)
      rw [h4] at g1
      cases Option.some.inj g1
      exact g2.1 rfl
    · show zD false l*_=_
      have:zD false l=((2^k+1:Nat):Int):=by
        unfold zD sgN
        rw [h5,if_neg (by decide)]
      rw [this]
  · cases h
theorem pow_t {k:Nat} {l:List Int} (h:T_r02_Add false [1] (k:Int) false [1] 0=some (false,l,0,0)):T_w16_power (k:Int) 1=some (1,1,[(false,l,0)]):=by
  unfold T_w16_power
  rw [Option.bind_some,nuI,Option.bind_some]
  dsimp only
  rw [h];rfl
theorem ScOk.val {n K:Nat} {A f:Nat→Nat→Int} {V:Mt} {low:Int} {ok:Bool} (h:ScOk n A V low ok) (hA:∀ i j,i<n→j<n→A i j=f i j*((2^K:Nat):Int)) (ho:∃ i j,i<n∧j<n∧f i j%2=1) :
    ∃ M,(∃ i j,i<n∧j<n∧blN (f i j).natAbs=M)∧ok=decide (M*n≤8192):=by
  obtain ⟨i0,j0,hi0,hj0,ho⟩:=ho
  have hP:=Nat.two_pow_pos K
  rcases h.2 with ⟨z,_⟩ | ⟨t,M,_,_,_,e1,⟨p,q,hp,hq,hod⟩,e3,⟨p',q',hp',hq',hM⟩,e5⟩
  · have:=(z i0 j0 hi0 hj0).1
    rw [hA i0 j0 hi0 hj0] at this
    exact absurd this (Int.mul_ne_zero (by omega) (by omega))
  · have hle:K≤t:=odd_t ((e1 p q hp hq).symm.trans (hA p q hp hq)) hod
    have hge:t≤K:=odd_t ((hA i0 j0 hi0 hj0).symm.trans (e1 i0 j0 hi0 hj0)) ho
    obtain rfl:t=K:=by omega
    refine ⟨M,⟨p',q',hp',hq',?_⟩,e5⟩
    have:=pow_cancel ((e1 p' q' hp' hq').symm.trans (hA p' q' hp' hq'))
    rw [← this];exact hM
theorem sig_pos {n:Nat} {A:Nat→Nat→Rat} {B Ab:Nat} {c:Rat} (hc:0<c) (h:Sig n A B Ab) (hA:∀ i j,i<n→j<n→A i j=if i=j then c else 0):B=0∧Ab=n:=by
  have hd:=Sig.diag n (fun _=>c)
  obtain ⟨b1,b2⟩:=Sig.law (h.ext fun i j hi hj=>(hA i j hi hj).symm) hd
  have hz:∀ m,cntN m (fun _=>c)=0∧cntP m (fun _=>c)=m:=fun m=>by
    induction m with
    | zero=>exact ⟨rfl,rfl⟩
    | succ m ih=>
      rw [cntN_succ,cntP_succ,ih.1,ih.2,if_neg (by grind),if_pos hc]
      exact ⟨rfl,rfl⟩
  rw [b1,b2]
  exact hz n
theorem sym1 {d:Dy} (h:GdD d):SymD 1 [d]:=⟨by decide,rfl,fun x hx=>by rw [List.mem_singleton.1 hx];exact h,fun i j hi hj=>by
  obtain rfl:i=0:=by omega
  obtain rfl:j=0:=by omega
  rfl⟩
theorem bl_pow {k:Nat} (hk:0<k):blN (((2^k+1:Nat):Int)).natAbs=k+1:=by
  rw [Int.natAbs_natCast]
  have h1:blN (2^k+1)≤k+1:=blN_le.2 (by
    have:=Nat.pow_le_pow_right (show 0<2 by decide) hk
    rw [Nat.pow_succ];omega)
  have h2 : ¬ blN (2^k+1)≤k:=fun c=>by have:=blN_le.1 c;omega
  omega
theorem pow_odd {k:Nat} (hk:0<k):(((2^k+1:Nat):Int))%2=1:=by
  obtain ⟨j,rfl⟩:∃ j,k=j+1:=⟨k-1,by omega⟩
  rw [Nat.pow_succ];omega
theorem ratPos {a:Int} (h:0<a):(0:Rat)<(a:Rat):=Rat.intCast_pos.2 h
theorem signs1 {k:Nat} {l:List Int} (hk:0<k) (hg:GdD (false,l,0)) (hv:nDD (false,l,0)=((2^k+1:Nat):Int)*((2^((0:Int)+65536).toNat:Nat):Int)) :
    T_inertia_Signs 1 1 [(false,l,0)]=if k+1≤8192 then some (0,0,1,0) else some (0,0,0,3):=by
  generalize ((0:Int)+65536).toNat=K at hv
  have hA:∀ i j,i<1→j<1→aD 1 [(false,l,0)] (false,[],0) i j=((2^k+1:Nat):Int)*((2^K:Nat):Int):=fun i j hi hj=>by
    obtain rfl:i=0:=by omega
    obtain rfl:j=0:=by omega
    show nDD (false,l,0)-nDD (false,[],0)=_
    rw [hv,nDD_nil,Int.sub_zero]
  obtain ⟨V,low,ok,h1,h2,h3⟩:=signs_t (sym1 hg) (by decide)
  obtain ⟨M,⟨i,j,hi,hj,hM⟩,rfl⟩:=h2.val hA ⟨0,0,by decide,by decide,pow_odd hk⟩
  rw [bl_pow hk] at hM
  subst hM
  rcases h3 with ⟨c,h⟩ | ⟨c,B,T,Ab,_,g2,g3,h⟩
  · rw [decide_eq_false_iff_not] at c
    rw [if_neg (by omega)];exact h
  · rw [decide_eq_true_iff] at c
    have hp:0<((2^k+1:Nat):Int)*((2^K:Nat):Int):=by
      have:=Nat.two_pow_pos K
      have:=Nat.two_pow_pos k
      exact Int.mul_pos (by omega) (by omega)
    obtain ⟨rfl,rfl⟩:=sig_pos (ratPos hp) g3 (fun i j hi hj=>by
      rw [hA i j hi hj,if_pos (by omega)])
    obtain rfl:T=0:=by omega
    rw [if_pos (by omega)];exact h
theorem below1 {n k:Nat} {m:List Dy} (hn:0<n) (hn8:n≤8) (hS:SymD n m) (hA:∀ i j,i<n→j<n→aD n m (false,[1],0) i j=(if i=j then 1 else 0)*((2^k:Nat):Int)):T_inertia_Below (n:Int) (n:Int) m false [1] 0=some (0,0):=by
  have g1:GdD (false,[1],0):=(dy3_gd 2).1
  obtain ⟨V,low,ok,h1,h2,h3⟩:=below_t hS g1 hn8
  obtain ⟨M,⟨i,j,hi,hj,hM⟩,rfl⟩:=h2.val hA ⟨0,0,hn,hn,rfl⟩
  have hM1:M≤1:=by
    rw [← hM]
    refine blN_le.2 ?_
    rw [Nat.pow_one]
    split<;>decide
  have hMn:M*n≤1*8:=Nat.mul_le_mul hM1 hn8
  rcases h3 with ⟨c,h⟩ | ⟨c,B,T,Ab,_,g2,g3,h⟩
  · rw [decide_eq_false_iff_not] at c;omega
  · have hp:(0:Int)<((2^k:Nat):Int):=by have:=Nat.two_pow_pos k;omega
    obtain ⟨rfl,_⟩:=sig_pos (ratPos hp) g3 (fun i j hi hj=>by
      rw [hA i j hi hj]
      split<;>simp)
    exact h
theorem nDD_one:nDD (false,[1],0)=((2^((0:Int)+65536).toNat:Nat):Int):=by
  show zD false [1]*_=_
  have:zD false [1]=1:=rfl
  rw [this,Int.one_mul]
theorem less_one {k:Nat} {l:List Int} (hv:nDD (false,l,0)=((2^k+1:Nat):Int)*((2^((0:Int)+65536).toNat:Nat):Int)):nDD (false,l,0)-nDD (false,[1],0)=((2^(k+((0:Int)+65536).toNat):Nat):Int):=by
  rw [hv,nDD_one,Nat.pow_add]
  generalize ((0:Int)+65536).toNat=K
  push_cast
  rw [Int.add_mul,Int.one_mul,Int.add_sub_cancel]
theorem bindE {α β:Type} {x:Option α} {f:α→Option β} {a:α} {y:Option β} (h:x=some a) (h2:f a=y):x.bind f=y:=by rw [h];exact h2
theorem symI2 {d:Dy} (h:GdD d):SymD 2 [d,(false,[],0),(false,[],0),d]:=⟨by decide,rfl,fun x hx=>by
  simp only [List.mem_cons,List.not_mem_nil,or_false] at hx
  rcases hx with rfl | rfl | rfl | rfl
  · exact h
  · exact .inl ⟨rfl,rfl,rfl⟩
  · exact .inl ⟨rfl,rfl,rfl⟩
  · exact h,fun i j hi hj=>by
  have hi:i=0∨i=1:=by omega
  have hj:j=0∨j=1:=by omega
  rcases hi with rfl | rfl<;>rcases hj with rfl | rfl<;>rfl⟩
theorem numbers16:T_w16_InertiaNumbers=some true:=by
  obtain ⟨l1,a1,g1,v1⟩:=pw_t chk8191
  obtain ⟨l2,a2,g2,v2⟩:=pw_t chk8192
  obtain ⟨l5,a5,g5,v5⟩:=pw_t chk5000
  have p1:T_w16_power 8191 1=some (1,1,[(false,l1,0)]):=pow_t (k:=8191) a1
  have p2:T_w16_power 8192 1=some (1,1,[(false,l2,0)]):=pow_t (k:=8192) a2
  have a5:T_r02_Add false [1] 5000 false [1] 0=some (false,l5,0,0):=a5
  have s1:=signs1 (by decide) g1 v1
  rw [if_pos (by decide)] at s1
  have s2:=signs1 (by decide) g2 v2
  rw [if_neg (by decide)] at s2
  have b1:T_inertia_Below 1 1 [(false,l1,0)] false [1] 0=some (0,0):=below1 (n:=1) (by decide) (by decide) (sym1 g1) (fun i j hi hj=>by
    obtain rfl:i=0:=by omega
    obtain rfl:j=0:=by omega
    rw [if_pos rfl,Int.one_mul]
    exact less_one v1)
  have b5:T_inertia_Below 2 2 [(false,l5,0),(false,[],0),(false,[],0),(false,l5,0)] false [1] 0=some (0,0):=below1 (n:=2) (by decide) (by decide) (symI2 g5) (fun i j hi hj=>by
    have hi:i=0∨i=1:=by omega
    have hj:j=0∨j=1:=by omega
    have e:=less_one v5
    rcases hi with rfl | rfl<;>rcases hj with rfl | rfl
    · rw [if_pos rfl,Int.one_mul];exact e
    · rw [if_neg (by decide),Int.zero_mul]
      show nDD (false,[],0)-0=0
      rw [nDD_nil];rfl
    · rw [if_neg (by decide),Int.zero_mul]
      show nDD (false,[],0)-0=0
      rw [nDD_nil];rfl
    · rw [if_pos rfl,Int.one_mul];exact e)
  obtain ⟨⟨c1,c2,c3⟩,q1,q1'⟩:=bnd nu1
  obtain ⟨⟨c4,c5,c6⟩,q2,q2'⟩:=bnd nu2
  obtain ⟨⟨c7,c8,c9⟩,q3,q3'⟩:=bnd nu3
  obtain ⟨⟨w1,w2⟩,q5,r5⟩:=bnd nu5
  obtain ⟨⟨w3,w4,w5⟩,q5',r5⟩:=bnd r5
  obtain ⟨w6,q5'',r5⟩:=bnd r5
  cases Option.some.inj r5
  obtain ⟨⟨c10,c11,c12⟩,q6,q6'⟩:=bnd nu6
  obtain ⟨⟨c13,c14,c15⟩,q7,q7'⟩:=bnd nu7
  obtain ⟨⟨c16,c17,c18⟩,q10,q10'⟩:=bnd nu10
  obtain ⟨⟨c19,c20,c21⟩,q14,q14'⟩:=bnd nu14
  obtain ⟨⟨c22,c23,c24⟩,q16,q16'⟩:=bnd nu16
  obtain ⟨⟨c25,c26,c27⟩,q17,q17'⟩:=bnd nu17
  obtain ⟨m,hm,hm2⟩:=loop48
  have mk1:mkL ((false,[],0):Dy) 2304 2304=some (List.replicate 2304 (false,[],0)):=mk_nat (n:=2304) (by decide)
  have mk2:mkL ((false,[],0):Dy) 2401 2401=some (List.replicate 2401 (false,[],0)):=mk_nat (n:=2401) (by decide)
  have s49:T_inertia_Signs 49 49 (List.replicate 2401 (false,[],0))=some (0,0,0,4):=by
    unfold T_inertia_Signs signsDo T_inertia_Symmetric T_inertia_Right
    rw [fits_t,Option.bind_some,decide_eq_false (by decide),cF]
    rfl
  replace q1':T_inertia_Signs c1 c2 c3=some (1,0,1,0):=q1'
  replace q2':T_inertia_Signs c4 c5 c6=some (0,2,0,0):=q2'
  replace q3':T_inertia_Signs c7 c8 c9=some (0,1,1,0):=q3'
  replace q6':T_inertia_Signs c10 c11 c12=some (0,0,0,4):=q6'
  replace q10':T_inertia_Signs c16 c17 c18=some (0,0,1,0):=q10'
  replace q17':T_inertia_Signs c25 c26 c27=some (0,0,0,4):=q17'
  replace q7':T_inertia_Poly 1 2 c15=some ([],4):=q7'
  replace q14':T_inertia_Below c19 c20 c21 false [2] 0=some (0,2):=q14'
  replace q16':T_inertia_Below c22 c23 c24 false [1] 9000=some (0,3):=q16'
  replace q5'':T_k_SameDyads w1 w5=some true:=q5''
  unfold T_w16_InertiaNumbers
  rw [Option.bind_some,q1,Option.bind_some];dsimp only
  rw [q1',Option.bind_some];dsimp only
  rw [Option.bind_some,q2,Option.bind_some];dsimp only
  rw [q2',Option.bind_some];dsimp only
  rw [Option.bind_some,q3,Option.bind_some];dsimp only
  rw [q3',Option.bind_some];dsimp only
  rw [nu4,Option.bind_some];dsimp only
  rw [q5,Option.bind_some];dsimp only
  rw [cond_t (by decide),cond_t (by decide),cond_t (by decide),cond_t (by decide),cond_t (by decide),Option.bind_some,q5',Option.bind_some];dsimp only
  rw [q5'',Option.bind_some,Option.bind_some,Option.bind_some,q6,Option.bind_some];dsimp only
  rw [q6',Option.bind_some];dsimp only
  rw [Option.bind_some,q7,Option.bind_some];dsimp only
  rw [q7',Option.bind_some];dsimp only
  rw [p1,Option.bind_some];dsimp only
  rw [s1,Option.bind_some];dsimp only
  rw [p2,Option.bind_some];dsimp only
  rw [s2,Option.bind_some];dsimp only
  rw [q10,Option.bind_some];dsimp only
  rw [q10',Option.bind_some];dsimp only
  rw [Option.bind_some,Option.bind_some,Option.bind_some,nu11,Option.bind_some];dsimp only
  rw [nu12,Option.bind_some];dsimp only
  refine bindE (a:=true) rfl ?_
  rw [Option.bind_some];dsimp only
  rw [nuI,Option.bind_some];dsimp only
  rw [b1,Option.bind_some];dsimp only
  rw [Option.bind_some,q14,Option.bind_some];dsimp only
  rw [Option.bind_some,q14',Option.bind_some];dsimp only
  rw [mk1,Option.bind_some,hm,Option.bind_some,Option.bind_some,Option.bind_some];dsimp only
  rw [a5,Option.bind_some];dsimp only
  rw [Option.bind_some,Option.bind_some];dsimp only
  rw [b5,Option.bind_some];dsimp only
  rw [Option.bind_some,q16,Option.bind_some];dsimp only
  rw [Option.bind_some,q16',Option.bind_some];dsimp only
  rw [Option.bind_some,q17,Option.bind_some];dsimp only
  rw [q17',Option.bind_some];dsimp only
  refine bindE (a:=false) rfl ?_
  rw [cF,signs48 hm2,Option.bind_some];dsimp only
  rw [mk2,Option.bind_some,s49,Option.bind_some];dsimp only
  rw [awake16]
  rfl
section
variable {N:Nums} {P:Program} (H:AllOk N P)
include H
theorem numbers16_f {w:World}:CallsX P N.f_w16_InertiaNumbers #[] w fun v w'=>v = .bool true∧∃ M,St w w' M:=
  wk_w16_InertiaNumbers H (Ho.start w) numbers16 fun w1 h=>⟨rfl,h.some_old⟩
end
end Go.Eng
