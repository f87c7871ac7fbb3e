/-
  LowerNear, the plain law: what was taken apart is the matrix, nearly. Its condition: none.
-/
import Derived.Test.YtgbilchfljlbeaaDoorDzl
import Derived.Test.YtgbilchfljlbeaaDoorPl12e
import Derived.Test.YtgbilchfljlbeaaDoorLdlP
import Derived.Test.YtgbilchfljlbeaaDoorLw12a
import Derived.Test.YtgbilchfljlbeaaDoorWk
import Derived.Test.YtgbilchfljlbeaaDoorLw0
import Derived.Test.YtgbilchfljlbeaaDoorRow2
set_option linter.all false
set_option maxRecDepth 100000
set_option maxHeartbeats 400000
set_option exponentiation.threshold 140000
namespace Go.Eng
open Go
theorem adds_dz {x0 d0:Bool} {xl dl:List Int} {x2 d2:Int} {k:Nat} {y z:Int} (h:Dz x0 xl x2 k y) (q:Dz d0 dl d2 k z) (h1:25536≤k) (h2:k≤105536) (hb:(y+z).natAbs<2^16384):∃ u n g,T_p_w12_sums_adds x0 xl x2 d0 dl d2 0 false=some (u,n,g)∧Dz u n g k (y+z):=by
  obtain ⟨u,n,g,a1,a2⟩:=add_dz h q h1 h2 hb
  refine ⟨u,n,g,?_,a2⟩
  unfold T_p_w12_sums_adds
  rw [show ((0:Int)==0)=true from rfl,cT,cF,Option.bind_some]
  dsimp only
  rw [a1];rfl
theorem addz_dz {x0 d0:Bool} {xl dl:List Int} {x2 d2:Int} {k:Nat} {y z:Int} (h:Dz x0 xl x2 k y) (q:Dz d0 dl d2 k z) (h1:25536≤k) (h2:k≤105536) (hb:(y+(z.natAbs:Int)).natAbs<2^16384):∃ u n g,T_p_w12_sums_adds x0 xl x2 d0 dl d2 0 true=some (u,n,g)∧Dz u n g k (y+(z.natAbs:Int)):=by
  have key:∃ a b c,(cond true ((T_dyad_Sign d0 dl d2).bind fun o=>match o with
        | (n,f)=>cond (f==0) (cond (decide (n<0)) ((T_dyad_Neg d0 dl d2).bind fun o=>match o with
          | (a,b,c,g)=>cond (g==0) (some (a,b,c)) none) (some (d0,dl,d2))) none) (some (d0,dl,d2)))=some (a,b,c)∧Dz a b c k (z.natAbs:Int):=by
    rw [cT,sign_gd q.1,Option.bind_some]
    dsimp only
    rw [show ((0:Int)==0)=true from rfl,cT,q.2]
    by_cases c:z<0
    · rw [decide_eq_true (neg_iff.2 c),cT]
      obtain ⟨s',n1,n2⟩:=neg_dz q
      rw [n1]
      refine ⟨s',dl,d2,rfl,?_⟩
      have:(z.natAbs:Int) = -z:=by omega
      rw [this];exact n2
    · rw [decide_eq_false (fun h=>c (neg_iff.1 h)),cF]
      refine ⟨d0,dl,d2,rfl,?_⟩
      have:(z.natAbs:Int)=z:=by omega
      rw [this];exact q
  obtain ⟨a,b,c,k1,k2⟩:=key
  obtain ⟨u,n,g,a1,a2⟩:=add_dz h k2 h1 h2 hb
  refine ⟨u,n,g,?_,a2⟩
  unfold T_p_w12_sums_adds
  rw [show ((0:Int)==0)=true from rfl,cT,k1,Option.bind_some]
  dsimp only
  rw [a1];rfl
def atw (L:List Nat) (i k:Nat):Nat:=if i=k then 4607182418800017408 else lowG L i k
theorem at12_t {n i k:Nat} {L D:List Nat} (hn:n≤8) (hL:L.length=tri n) (hk:k≤i) (hi:i<n):T_w12_at (n:Int) L D (i:Int) (k:Int)=some (atw L i k):=by
  unfold T_w12_at atw
  by_cases c:i=k
  · rw [if_pos c,cond_t (by rw [beq_iff_eq];omega)]
    have:nf 4607182418800017408=4607182418800017408:=by decide +kernel
    rw [this]
  · rw [if_neg c,cond_f (by rw [beq_eq_false_iff_ne];omega)]
    have ht:=tri_lt (show k<i by omega) hi
    have h8:=tri_le (show n≤48 by omega)
    rw [triInt (by omega),wrI (by omega) (by omega),show ((tri i:Nat):Int)+(k:Int)=((tri i+k:Nat):Int) by omega,at_getD 0 (by omega)]
    rfl
theorem sval_lt12 {x:Nat} (h:magF x<9218868437227405312):(sval x).natAbs<2^2098:=by
  have e:vmag 9218868437227405312=2^2098:=by decide +kernel
  have:=vmag_lt h
  rw [e] at this
  have e2:(sval x).natAbs=vmag (magF x):=by
    unfold sval
    cases negF x<;>simp
  omega
theorem product_dz {a b c:Nat} (ha:magF a<9218868437227405312) (hb:magF b<9218868437227405312) (hc:magF c<9218868437227405312):∃ s l f,T_w12_product a b c=some (s,l,f,0)∧Dz s l f 62314 (sval a*sval b*sval c):=by
  obtain ⟨s1,l1,e1,o1,z1⟩:=of_dz ha
  obtain ⟨s2,l2,e2,o2,z2⟩:=of_dz hb
  obtain ⟨s3,l3,e3,o3,z3⟩:=of_dz hc
  have b1:=sval_lt12 ha
  have b2:=sval_lt12 hb
  have b3:=sval_lt12 hc
  have p1:(sval a*sval b).natAbs<2^2098*2^2098:=by
    rw [Int.natAbs_mul]
    exact Nat.mul_lt_mul'' b1 b2
  have p2:(sval a*sval b*sval c).natAbs<2^2098*2^2098*2^2098:=by
    rw [Int.natAbs_mul]
    exact Nat.mul_lt_mul'' p1 b3
  have q1:(2:Nat)^2098*2^2098≤2^16384:=by rw [← Nat.pow_add];exact Nat.pow_le_pow_right (by decide) (by decide)
  have q2:(2:Nat)^2098*2^2098*2^2098≤2^16384:=by rw [← Nat.pow_add,← Nat.pow_add];exact Nat.pow_le_pow_right (by decide) (by decide)
  obtain ⟨s4,l4,e4,m1,m2⟩:=mul_dz (i:=63388) z1 z2 (by omega) (by omega) (by omega) (Nat.lt_of_lt_of_le p1 q1)
  obtain ⟨s5,l5,e5,m3,m4⟩:=mul_dz (i:=62314) m2 z3 (by omega) (by omega) (by omega) (Nat.lt_of_lt_of_le p2 q2)
  refine ⟨s5,l5,e5,?_,m4⟩
  unfold T_w12_product
  rw [o1,Option.bind_some]
  dsimp only
  rw [o2,Option.bind_some]
  dsimp only
  rw [o3,Option.bind_some]
  dsimp only
  rw [show (cond (!((0:Int) != 0)) (cond (!((0:Int) != 0)) (some ((0:Int) != 0)) (some true)) (some true))=some false from rfl,Option.bind_some,cF,m1,Option.bind_some]
  dsimp only
  rw [cond_f (by rfl),m3];rfl
section
variable {a L D:List Nat} {n:Nat} (hn:n≤8) (hF:Fac a n L D) (fa:∀ i,i<a.length→finQ (a.getD i 0)=true) (la:a.length=n*n)
include hn hF
theorem atw_fin {i k:Nat} (hk:k≤i) (hi:i<n):magF (atw L i k)<9218868437227405312:=by
  unfold atw
  split
  · decide
  · exact of_decide_eq_true (hF.bel i k (by omega) hi (by omega)).2
theorem d_fin {k:Nat} (hk:k<n):magF (D.getD k 0)<9218868437227405312:=of_decide_eq_true (hF.dia k hk).2.2
def ptm (L D:List Nat) (i j k:Nat):Int:=sval (atw L i k)*sval (D.getD k 0)*sval (atw L j k)
theorem ptm_lt {i j k:Nat} (hj:j≤i) (hi:i<n) (hk:k≤j):(ptm L D i j k).natAbs<2^6294:=by
  have b1:=sval_lt12 (atw_fin hn hF (show k≤i by omega) hi)
  have b2:=sval_lt12 (d_fin hn hF (show k<n by omega))
  have b3:=sval_lt12 (atw_fin hn hF hk (show j<n by omega))
  have e:(2:Nat)^6294=2^2098*2^2098*2^2098:=by rw [← Nat.pow_add,← Nat.pow_add]
  unfold ptm
  rw [Int.natAbs_mul,Int.natAbs_mul,e]
  exact Nat.mul_lt_mul'' (Nat.mul_lt_mul'' b1 b2) b3
theorem psum_lt {f:Nat→Int} {B:Nat}:∀ {m:Nat},(∀ k,k<m→(f k).natAbs≤B)→(psum f m).natAbs≤m*B
  | 0,_=>by simp [psum]
  | m+1,h=>by
    have ih:=psum_lt (m:=m) fun k hk=>h k (by omega)
    have:=h m (by omega)
    have e:psum f (m+1)=psum f m+f m:=rfl
    rw [e,Nat.succ_mul]
    omega
theorem asum_lt {f:Nat→Nat} {B:Nat}:∀ {m:Nat},(∀ k,k<m→f k≤B)→asum f m≤m*B
  | 0,_=>by simp [asum]
  | m+1,h=>by
    have ih:=asum_lt (m:=m) fun k hk=>h k (by omega)
    have:=h m (by omega)
    have e:asum f (m+1)=asum f m+f m:=rfl
    rw [e,Nat.succ_mul]
    omega
end
theorem psum_cg {f g:Nat→Int}:∀ {m:Nat},(∀ k,k<m→f k=g k)→psum f m=psum g m
  | 0,_=>rfl
  | m+1,h=>by
    show psum f m+f m=psum g m+g m
    rw [psum_cg (m:=m) fun k hk=>h k (by omega),h m (by omega)]
theorem asum_cg {f g:Nat→Nat}:∀ {m:Nat},(∀ k,k<m→f k=g k)→asum f m=asum g m
  | 0,_=>rfl
  | m+1,h=>by
    show asum f m+f m=asum g m+g m
    rw [asum_cg (m:=m) fun k hk=>h k (by omega),h m (by omega)]
theorem dz_zero {s:Bool} {l:List Int} {f:Int} {k j:Nat} (h:Dz s l f k 0):Dz s l f j 0:=⟨h.1,by rw [h.2,Int.zero_mul,Int.zero_mul]⟩
theorem neg_sval12 (x:Nat):sval (fneg x) = - sval x:=by
  unfold sval
  rw [fneg_mag,fneg_neg]
  cases negF x<;>simp
theorem near_fin {S P F A:Int} {U SA SL DD j C B:Nat} (h:(P+F*(U:Int)-A*(U:Int)*(U:Int)).natAbs*B≤(j+2)*(SA+F.natAbs*U+(U+SL+DD)*C)) (hS:S=P+F*(U:Int) + -A*((U*U:Nat):Int)) :
    ((S.natAbs:Int))*(B:Int)≤(((SA+(F*(U:Int)).natAbs:Nat):Int)+(((U+SL+DD)*C:Nat):Int))*((j+2:Nat):Int):=by
  have e2:(F*(U:Int)).natAbs=F.natAbs*U:=by rw [Int.natAbs_mul,Int.natAbs_natCast]
  have e3 : -A*((U*U:Nat):Int) = -(A*(U:Int)*(U:Int)):=by
    rw [Int.natCast_mul,Int.neg_mul,Int.mul_assoc]
  have e4:S=P+F*(U:Int)-A*(U:Int)*(U:Int):=by rw [hS,e3];omega
  rw [e4,e2]
  generalize (P+F*(U:Int)-A*(U:Int)*(U:Int)).natAbs=X at *
  generalize F.natAbs*U=Y at *
  generalize U+SL+DD=R at *
  rw [← Int.natCast_add,← Int.natCast_mul,← Int.natCast_mul,Nat.mul_comm (SA+Y+R*C)]
  exact Int.ofNat_le.2 h
def p50:Nat:=2^50
def p1074:Nat:=2^1074
def p1128:Nat:=2^1128
def p2098:Nat:=2^2098
def p2148:Nat:=2^2148
def p6294:Nat:=2^6294
theorem p1_le:p1074≤p2098:=Nat.pow_le_pow_right (by decide) (by decide)
theorem p2_eq:p2148=p1074*p1074:=by unfold p2148 p1074;rw [← Nat.pow_add]
theorem p3_le:p2098*p2148≤p6294:=by unfold p2098 p2148 p6294;rw [← Nat.pow_add];exact Nat.pow_le_pow_right (by decide) (by decide)
theorem p4_le:20*p2098*p1128≤p6294:=by
  have e:20*p2098*p1128≤2^5*p2098*p1128:=Nat.mul_le_mul_right _ (Nat.mul_le_mul_right _ (by decide))
  refine Nat.le_trans e ?_
  unfold p2098 p1128 p6294
  rw [← Nat.pow_add,← Nat.pow_add]
  exact Nat.pow_le_pow_right (by decide) (by decide)
theorem p5_le:20*p2098≤p6294:=by
  have e:20*p2098≤2^5*p2098:=Nat.mul_le_mul_right _ (by decide)
  refine Nat.le_trans e ?_
  unfold p2098 p6294
  rw [← Nat.pow_add]
  exact Nat.pow_le_pow_right (by decide) (by decide)
theorem p8_eq:8*2^1125=p1128:=by unfold p1128;rw [show 1128=3+1125 from rfl,Nat.pow_add]
theorem one_sval12:sval 4607182418800017408=((p1074:Nat):Int):=by decide +kernel
def Sm (x:Nat):Prop:=x<2^16384
theorem big {x:Nat} (h:x≤320*p6294):Sm x:=by
  have h1:320*p6294≤2^9*p6294:=Nat.mul_le_mul_right _ (by decide)
  have h2:(2:Nat)^9*p6294<2^16384:=by unfold p6294;rw [← Nat.pow_add];exact Nat.pow_lt_pow_right (by decide) (by decide)
  exact Nat.lt_of_le_of_lt (Nat.le_trans h h1) h2
theorem near_t {a L D:List Nat} {n i j:Nat} (hn:n≤8) (hF:Fac a n L D) (hji:j≤i) (hi:i<n) (fx:magF (a.getD (i*n+j) 0)<9218868437227405312):T_w12_near (n:Int) L D (i:Int) (j:Int) (a.getD (i*n+j) 0)=some true:=by
  have hj:j<n:=by omega
  have pl:∀ k,k≤j→(ptm L D i j k).natAbs≤p6294:=fun k hk=>Nat.le_of_lt (ptm_lt hn hF hji hi hk)
  have ll:∀ k,k<j→(sval (lowG L i k)).natAbs≤p2098:=fun k hk=>Nat.le_of_lt (sval_lt12 (of_decide_eq_true (hF.bel i k (by omega) hi (by omega)).2))
  have u1:=p1_le
  have u5:=p5_le
  obtain ⟨z1,z2,z3,hz,Hz⟩:=int_dz (n:=0) (by decide) (by decide)
  obtain ⟨o1,o2,o3,ho,Ho_⟩:=int_dz (n:=1) (by decide) (by decide)
  have Ho1:Dz o1 o2 o3 64462 (((p1074:Nat):Int)):=by
    have:=dz_up (k:=64462) (j:=1074) Ho_
    rwa [Int.one_mul] at this
  have i1:Dz o1 o2 o3 64462 ((p1074+asum (fun k=>(sval (lowG L i k)).natAbs) (min 0 j):Nat):Int):=by
    rw [Nat.zero_min,show asum (fun k=>(sval (lowG L i k)).natAbs) 0=0 from rfl,Nat.add_zero];exact Ho1
  have i2:Dz z1 z2 z3 62314 ((asum (fun k=>(ptm L D i j k).natAbs) 0:Nat):Int):=by
    rw [show asum (fun k=>(ptm L D i j k).natAbs) 0=0 from rfl,Int.natCast_zero];exact dz_zero Hz
  have i3:Dz z1 z2 z3 62314 (psum (ptm L D i j) 0):=by
    rw [show psum (ptm L D i j) 0=0 from rfl];exact dz_zero Hz
  unfold T_w12_near
  rw [hz,Option.bind_some]
  dsimp only
  rw [ho,Option.bind_some]
  dsimp only
  rw [Option.bind_some]
  dsimp only
  obtain ⟨o,h1,r1,rl,r2,s1,sl_,s2,d1,dl,d2,rfl,R1,S1,D1⟩:=iter_inv (b:=T_w12_near_b2 (j:Int) D (n:Int) L (i:Int))
    (fun k st=>∃ r1 rl r2 s1 sl_ s2 d1 dl d2,st=((k:Int),r1,r2,s1,s2,d1,d2,rl,sl_,dl)∧Dz r1 rl r2 64462 ((p1074+asum (fun k=>(sval (lowG L i k)).natAbs) (min k j):Nat):Int)∧Dz s1 sl_ s2 62314 ((asum (fun k=>(ptm L D i j k).natAbs) k:Nat):Int)∧Dz d1 dl d2 62314 (psum (ptm L D i j) k))
    (j+1)
    (fun o=>∃ r1 rl r2 s1 sl_ s2 d1 dl d2,o=(r1,r2,s1,s2,d1,d2,rl,sl_,dl)∧Dz r1 rl r2 64462 ((p1074+asum (fun k=>(sval (lowG L i k)).natAbs) j:Nat):Int)∧Dz s1 sl_ s2 62314 ((asum (fun k=>(ptm L D i j k).natAbs) (j+1):Nat):Int)∧Dz d1 dl d2 62314 (psum (ptm L D i j) (j+1)))
    (by rw [FU_eq];omega) (by
    rintro k st hk ⟨r1,rl,r2,s1,sl_,s2,d1,dl,d2,rfl,R1,S1,D1⟩
    have hkj:k≤j:=by omega
    obtain ⟨p1,p2,p3,hp,P1⟩:=product_dz (atw_fin hn hF (show k≤i by omega) hi) (d_fin hn hF (show k<n by omega)) (atw_fin hn hF hkj hj)
    have P1:Dz p1 p2 p3 62314 (ptm L D i j k):=P1
    have bd:=psum_lt hn hF (f:=ptm L D i j) (B:=p6294) (m:=k+1) fun q hq=>pl q (by omega)
    have bs:=asum_lt hn hF (f:=fun q=>(ptm L D i j q).natAbs) (B:=p6294) (m:=k+1) fun q hq=>pl q (by omega)
    have m1:(k+1)*p6294≤20*p6294:=Nat.mul_le_mul_right _ (by omega)
    obtain ⟨x1,x2,x3,hx,X1⟩:=adds_dz D1 P1 (by omega) (by omega) (big (Nat.le_trans bd (Nat.le_trans m1 (by omega))))
    obtain ⟨y1,y2,y3,hy,Y1⟩:=addz_dz S1 P1 (by omega) (by omega) (big (x:=(((asum (fun k=>(ptm L D i j k).natAbs) k:Nat):Int)+((ptm L D i j k).natAbs:Int)).natAbs) (by
      rw [← Int.natCast_add,Int.natAbs_natCast]
      exact Nat.le_trans bs (Nat.le_trans m1 (by omega))))
    have Y1:Dz y1 y2 y3 62314 ((asum (fun k=>(ptm L D i j k).natAbs) (k+1):Nat):Int):=by
      rw [← Int.natCast_add] at Y1
      exact Y1
    have X1:Dz x1 x2 x3 62314 (psum (ptm L D i j) (k+1)):=X1
    by_cases c:k<j
    · obtain ⟨v1,v2,v3,hv,V1⟩:=of_dz (atw_fin hn hF (show k≤i by omega) hi)
      have ea:atw L i k=lowG L i k:=if_neg (by omega)
      rw [ea] at hv V1
      rw [Nat.min_eq_left (by omega)] at R1
      have br:=asum_lt hn hF (f:=fun q=>(sval (lowG L i q)).natAbs) (B:=p2098) (m:=k+1) fun q hq=>ll q (by omega)
      have m2:(k+1)*p2098≤19*p2098:=Nat.mul_le_mul_right _ (by omega)
      obtain ⟨w1,w2,w3,hw,W1⟩:=addz_dz R1 V1 (by omega) (by omega) (big (x:=(((p1074+asum (fun k=>(sval (lowG L i k)).natAbs) k:Nat):Int)+((sval (lowG L i k)).natAbs:Int)).natAbs) (by
        rw [← Int.natCast_add,Int.natAbs_natCast]
        have e:asum (fun q=>(sval (lowG L i q)).natAbs) (k+1)=asum (fun q=>(sval (lowG L i q)).natAbs) k+(sval (lowG L i k)).natAbs:=rfl
        omega))
      have W1:Dz w1 w2 w3 64462 ((p1074+asum (fun k=>(sval (lowG L i k)).natAbs) (min (k+1) j):Nat):Int):=by
        rw [Nat.min_eq_left (by omega),show asum (fun q=>(sval (lowG L i q)).natAbs) (k+1)=asum (fun q=>(sval (lowG L i q)).natAbs) k+(sval (lowG L i k)).natAbs from rfl,← Nat.add_assoc,Int.natCast_add]
        exact W1
      refine ⟨(((k+1:Nat):Int),w1,w3,y1,y3,x1,x3,w2,y2,x2),?_,w1,w2,w3,y1,y2,y3,x1,x2,x3,rfl,W1,Y1,X1⟩
      unfold T_w12_near_b2
      dsimp only
      rw [cond_t (by rw [decide_eq_true_eq];omega),at_getD 0 (by rw [hF.lenD];omega),Option.bind_some,at12_t hn hF.lenL (by omega) hi,Option.bind_some,at12_t hn hF.lenL hkj hj,Option.bind_some,hp,Option.bind_some]
      dsimp only
      rw [Option.bind_some]
      dsimp only
      rw [hx,Option.bind_some]
      dsimp only
      rw [hy,Option.bind_some]
      dsimp only
      rw [cond_t (by rw [decide_eq_true_eq];omega),ea,Option.bind_some,hv,Option.bind_some]
      dsimp only
      rw [hw,Option.bind_some]
      dsimp only
      rw [Option.bind_some,Option.bind_some,wrU (by omega)]
    · have hkj2:k=j:=by omega
      have R2:Dz r1 rl r2 64462 ((p1074+asum (fun k=>(sval (lowG L i k)).natAbs) (min (k+1) j):Nat):Int):=by
        rw [Nat.min_eq_right (by omega)] at R1 ⊢
        exact R1
      refine ⟨(((k+1:Nat):Int),r1,r2,y1,y3,x1,x3,rl,y2,x2),?_,r1,rl,r2,y1,y2,y3,x1,x2,x3,rfl,R2,Y1,X1⟩
      unfold T_w12_near_b2
      dsimp only
      rw [cond_t (by rw [decide_eq_true_eq];omega),at_getD 0 (by rw [hF.lenD];omega),Option.bind_some,at12_t hn hF.lenL (by omega) hi,Option.bind_some,at12_t hn hF.lenL hkj hj,Option.bind_some,hp,Option.bind_some]
      dsimp only
      rw [Option.bind_some]
      dsimp only
      rw [hx,Option.bind_some]
      dsimp only
      rw [hy,Option.bind_some]
      dsimp only
      rw [cond_f (by rw [decide_eq_false_iff_not];omega),Option.bind_some,Option.bind_some,wrU (by omega)]) (by
    rintro st ⟨r1,rl,r2,s1,sl_,s2,d1,dl,d2,rfl,R1,S1,D1⟩
    rw [Nat.min_eq_right (by omega)] at R1
    refine ⟨_,?_,r1,rl,r2,s1,sl_,s2,d1,dl,d2,rfl,R1,S1,D1⟩
    unfold T_w12_near_b2
    dsimp only
    rw [cond_f (by rw [decide_eq_false_iff_not];omega)]) (s0:=(0,o1,o3,z1,z3,z1,z3,o2,z2,z2))
    ⟨o1,o2,o3,z1,z2,z3,z1,z2,z3,rfl,i1,i2,i3⟩
  rw [h1,Option.bind_some]
  dsimp only
  obtain ⟨v1,v2,v3,hv,V1⟩:=of_dz (d_fin hn hF hj)
  have bD:(sval (D.getD j 0)).natAbs≤p2098:=Nat.le_of_lt (sval_lt12 (d_fin hn hF hj))
  have br:=asum_lt hn hF (f:=fun q=>(sval (lowG L i q)).natAbs) (B:=p2098) (m:=j) fun q hq=>ll q hq
  have m2:j*p2098≤18*p2098:=Nat.mul_le_mul_right _ (by omega)
  have bR:p1074+asum (fun k=>(sval (lowG L i k)).natAbs) j+(sval (D.getD j 0)).natAbs≤20*p2098:=by
    omega
  obtain ⟨w1,w2,w3,hw,W1⟩:=addz_dz R1 V1 (by omega) (by omega) (big (by
    rw [← Int.natCast_add,Int.natAbs_natCast];exact Nat.le_trans bR (by omega)))
  rw [← Int.natCast_add] at W1
  have fy:magF (fneg (a.getD (i*n+j) 0))<9218868437227405312:=by rw [fneg_mag];exact fx
  obtain ⟨y1,y2,y3,hy,Y1⟩:=of_dz fy
  rw [neg_sval12] at Y1
  have bd:=psum_lt hn hF (f:=ptm L D i j) (B:=p6294) (m:=j+1) fun q hq=>pl q (by omega)
  have bs:=asum_lt hn hF (f:=fun q=>(ptm L D i j q).natAbs) (B:=p6294) (m:=j+1) fun q hq=>pl q (by omega)
  have m1:(j+1)*p6294≤8*p6294:=Nat.mul_le_mul_right _ (by omega)
  have Y2:Dz y1 y2 y3 62314 (- sval (a.getD (i*n+j) 0)*((p2148:Nat):Int)):=dz_up (k:=62314) (j:=2148) Y1
  have by_:(- sval (a.getD (i*n+j) 0)*((p2148:Nat):Int)).natAbs≤p6294:=by
    have h:=Nat.le_of_lt (sval_lt12 fx)
    rw [Int.natAbs_mul,Int.natAbs_neg,Int.natAbs_natCast]
    exact Nat.le_trans (Nat.mul_le_mul_right _ h) p3_le
  have bsum:(psum (ptm L D i j) (j+1) + - sval (a.getD (i*n+j) 0)*((p2148:Nat):Int)).natAbs≤20*p6294:=by
    generalize-sval (a.getD (i*n+j) 0)*((p2148:Nat):Int)=Y at *
    omega
  obtain ⟨x1,x2,x3,hx,X1⟩:=adds_dz D1 Y2 (by omega) (by omega) (big (Nat.le_trans bsum (by omega)))
  obtain ⟨g1,g2,g3,hg,G1⟩:=addz_dz (dz_zero (j:=62314) Hz) X1 (by omega) (by omega) (big (by
    rw [Int.zero_add,Int.natAbs_natCast];exact Nat.le_trans bsum (by omega)))
  rw [Int.zero_add] at G1
  obtain ⟨q1,q2,q3,hq,Q1⟩:=scale_dz (j:=62264) (q := -50) S1 (big (by rw [Int.natAbs_natCast];exact Nat.le_trans bs (Nat.le_trans m1 (by omega)))) (by omega) (by omega) (by omega) (by omega) (by omega)
  obtain ⟨t1,t2,t3,ht,T1⟩:=scale_dz (j:=63392) (q := -1070) W1 (big (by rw [Int.natAbs_natCast];exact Nat.le_trans bR (by omega))) (by omega) (by omega) (by omega) (by omega) (by omega)
  have T2:Dz t1 t2 t3 62264 (((p1074+asum (fun k=>(sval (lowG L i k)).natAbs) j+(sval (D.getD j 0)).natAbs:Nat):Int)*((p1128:Nat):Int)):=dz_up (k:=62264) (j:=1128) T1
  have bR3:(p1074+asum (fun k=>(sval (lowG L i k)).natAbs) j+(sval (D.getD j 0)).natAbs)*p1128≤p6294:=Nat.le_trans (Nat.mul_le_mul_right _ bR) p4_le
  rw [← Int.natCast_mul] at T2
  have bsum2:asum (fun q=>(ptm L D i j q).natAbs) (j+1)+(p1074+asum (fun k=>(sval (lowG L i k)).natAbs) j+(sval (D.getD j 0)).natAbs)*p1128≤10*p6294:=by
    generalize (p1074+asum (fun k=>(sval (lowG L i k)).natAbs) j+(sval (D.getD j 0)).natAbs)*p1128=R at *
    omega
  obtain ⟨c1,c2,c3,hc,C1⟩:=add_dz Q1 T2 (by omega) (by omega) (big (by
    rw [← Int.natCast_add,Int.natAbs_natCast]
    exact Nat.le_trans bsum2 (by omega)))
  obtain ⟨n1,n2,n3,hn2,N1⟩:=int_dz (n:=((j+2:Nat):Int)) (by omega) (by omega)
  have bpr:((((asum (fun k=>(ptm L D i j k).natAbs) (j+1):Nat):Int)+(((p1074+asum (fun k=>(sval (lowG L i k)).natAbs) j+(sval (D.getD j 0)).natAbs)*p1128:Nat):Int))*((j+2:Nat):Int)).natAbs≤320*p6294:=by
    rw [← Int.natCast_add,← Int.natCast_mul,Int.natAbs_natCast]
    refine Nat.le_trans (Nat.mul_le_mul bsum2 (show j+2≤16 by omega)) ?_
    omega
  obtain ⟨m1_,m2_,m3_,hm,M1⟩:=mul_dz (i:=62264) C1 N1 (by omega) (by omega) (by omega) (big bpr)
  have G2:Dz g1 g2 g3 62264 (((psum (ptm L D i j) (j+1) + - sval (a.getD (i*n+j) 0)*((p2148:Nat):Int)).natAbs:Int)*((p50:Nat):Int)):=dz_up (k:=62264) (j:=50) G1
  have ineq:((psum (ptm L D i j) (j+1) + - sval (a.getD (i*n+j) 0)*((p2148:Nat):Int)).natAbs:Int)*((p50:Nat):Int)≤(((asum (fun k=>(ptm L D i j k).natAbs) (j+1):Nat):Int)+(((p1074+asum (fun k=>(sval (lowG L i k)).natAbs) j+(sval (D.getD j 0)).natAbs)*p1128:Nat):Int))*((j+2:Nat):Int):=by
    have pn:=place_near hn hF hji hi
    rw [show (2:Nat)^1074=p1074 from rfl,show (2:Nat)^50=p50 from rfl,p8_eq] at pn
    have ef:ptm L D i j j=placeF L D i j*((p1074:Nat):Int):=by
      unfold ptm placeF
      rw [show (2:Nat)^1074=p1074 from rfl,show atw L j j=4607182418800017408 from if_pos rfl,one_sval12]
      by_cases c:i=j
      · rw [if_pos c,show atw L i j=4607182418800017408 from if_pos c,one_sval12,Int.mul_comm ((p1074:Nat):Int) (sval (D.getD j 0))]
      · rw [if_neg c,show atw L i j=lowG L i j from if_neg c]
    have ep:psum (fun k=>sval (lowG L i k)*sval (D.getD k 0)*sval (lowG L j k)) j=psum (ptm L D i j) j:=psum_cg fun k hk=>by
      unfold ptm
      rw [show atw L i k=lowG L i k from if_neg (by omega),show atw L j k=lowG L j k from if_neg (by omega)]
    have es:asum (fun k=>(sval (lowG L i k)*sval (D.getD k 0)*sval (lowG L j k)).natAbs) j=asum (fun k=>(ptm L D i j k).natAbs) j:=asum_cg fun k hk=>by
      unfold ptm
      rw [show atw L i k=lowG L i k from if_neg (by omega),show atw L j k=lowG L j k from if_neg (by omega)]
    rw [ep,es] at pn
    have e3:psum (ptm L D i j) (j+1)=psum (ptm L D i j) j+placeF L D i j*((p1074:Nat):Int):=by rw [← ef];rfl
    have e4:asum (fun k=>(ptm L D i j k).natAbs) (j+1)=asum (fun k=>(ptm L D i j k).natAbs) j+(placeF L D i j*((p1074:Nat):Int)).natAbs:=by rw [← ef];rfl
    have e5:=p2_eq
    have:=near_fin (j:=j) (S:=psum (ptm L D i j) j+placeF L D i j*((p1074:Nat):Int) + - sval (a.getD (i*n+j) 0)*((p1074*p1074:Nat):Int)) pn rfl
    rw [e3,e4,e5]
    exact this
  obtain ⟨k1,hk,K1⟩:=cmp_dz G2 M1 ineq
  rw [at_getD 0 (by rw [hF.lenD];exact hj),Option.bind_some,hv,Option.bind_some]
  dsimp only
  rw [hw,Option.bind_some]
  dsimp only
  rw [Option.bind_some,nf_fin (by omega),hy,Option.bind_some]
  dsimp only
  rw [hx,Option.bind_some]
  dsimp only
  rw [hg,Option.bind_some]
  dsimp only
  rw [hq,Option.bind_some]
  dsimp only
  rw [ht,Option.bind_some]
  dsimp only
  rw [show (cond (!((0:Int) != 0)) (cond (!((0:Int) != 0)) (some false) (some true)) (some true))=some false from rfl,Option.bind_some,cF,hc,Option.bind_some]
  dsimp only
  rw [cond_f (by rfl),show IntKind.i64.wrap ((j:Int)+2)=((j+2:Nat):Int) by rw [wrI (by omega) (by omega)];omega,hn2,Option.bind_some]
  dsimp only
  rw [hm,Option.bind_some]
  dsimp only
  rw [hk,Option.bind_some]
  dsimp only
  rw [show ((0:Int)==0)=true from rfl,cT,cT,decide_eq_true K1]
theorem d_notinf {x:Nat} (h:magF x<9218868437227405312):T_math_IsInf x 1=some false:=by
  unfold T_math_IsInf
  rw [show ((1:Int)==0)=false from rfl,cF,show decide ((1:Int)<0)=false from rfl,cF]
  simp only [Option.bind_some]
  have e:nf 9218868437227405311=9218868437227405311:=by decide +kernel
  rw [e]
  congr 1
  unfold fgt
  rw [order_fin h (by decide)]
  have h1:(sval x).natAbs≤vmag 9218868437227405311:=by
    have e2:(sval x).natAbs=vmag (magF x):=by
      unfold sval
      cases negF x<;>simp
    rw [e2]
    exact vmag_le_iff.2 (by omega)
  have h2:sval 9218868437227405311=(vmag 9218868437227405311:Int):=by decide +kernel
  have h3 : ¬ sval 9218868437227405311<sval x:=by omega
  have h4:compare (sval x) (sval 9218868437227405311) ≠ .gt:=fun h=>h3 (Int.compare_eq_gt.1 h)
  cases hc:compare (sval x) (sval 9218868437227405311) with
  | gt=>exact absurd hc h4
  | lt=>rfl
  | eq=>rfl
theorem lowerNear12 (q r:Int) (l:List Nat):T_w12_LowerNear q r l=some true:=by
  unfold T_w12_LowerNear
  simp only [Option.bind_some,awake12,Bool.not_true,cF]
  obtain ⟨n,a,hn,h1,la,sa⟩:=small_sym q r l
  rw [h1,Option.bind_some]
  dsimp only
  obtain ⟨t,L,D,e,x,h2,he⟩:=factor_ends (l:=a) (show n≤48 by omega) la sa
  rw [h2,Option.bind_some]
  dsimp only
  by_cases c:e=0
  · subst c
    obtain ⟨n',q1,q2,rfl,hS,hF⟩:=factor_run h2
    have:n'=n:=by omega
    subst this
    have hnn:n'*n'≤8*8:=Nat.mul_le_mul hn hn
    have hR:T_lower_Right (n':Int) L D=some true:=by
      unfold T_lower_Right
      rw [cond_t (by simp),cond_t (by simp;omega),hF.lenL,hF.lenD,Option.bind_some,triInt (by omega),cond_t (by simp),Option.bind_some]
      simp
    rw [cond_f (by rfl),show ((n':Int) != (n':Int))=false from by simp,Bool.not_false,cT,hR,Option.bind_some,Bool.not_true,Option.bind_some,cF]
    have fa:∀ i j,i<n'→j<n'→magF (a.getD (i*n'+j) 0)<9218868437227405312:=fun i j hi hj=>of_decide_eq_true (hS.fin _ (by rw [la];exact idxL hi hj))
    have out:=iter_nat (b:=T_w12_LowerNear_b5 (n':Int) D a (n':Int) L) (fun i=>((i:Nat):Int)) (o := .inl ()) n' (by rw [FU_eq];omega) (fun i hi=>by
      have inn:=iter_nat (b:=T_w12_LowerNear_b7 (i:Int) a (n':Int) (n':Int) L D) (fun j=>((j:Nat):Int)) (o := .inl ()) (i+1) (by rw [FU_eq];omega) (fun j hj=>by
        unfold T_w12_LowerNear_b7
        dsimp only
        have hix:=idxL hi (show j<n' by omega)
        rw [cond_t (by rw [decide_eq_true_eq];omega),wrIdx hi (show j<n' by omega) (by omega),at_getD 0 (by rw [la];exact hix),Option.bind_some,near_t hn hF (by omega) hi (fa i j hi (by omega)),Option.bind_some,Bool.not_true,cF,wrU (by omega)]) (by
        unfold T_w12_LowerNear_b7
        dsimp only
        rw [cond_f (by rw [decide_eq_false_iff_not];omega)])
      rw [show ((0:Nat):Int)=0 from rfl] at inn
      unfold T_w12_LowerNear_b5
      dsimp only
      rw [cond_t (by rw [decide_eq_true_eq];omega),at_getD 0 (by rw [hF.lenD];exact hi)]
      simp only [Option.bind_some]
      rw [nf_zero,(hF.dia i hi).2.1,Bool.not_true,Bool.not_false,cT,d_notinf (d_fin hn hF hi),Option.bind_some,cF,inn,Option.bind_some,wrU (by omega)]) (by
      unfold T_w12_LowerNear_b5
      dsimp only
      rw [cond_f (by rw [decide_eq_false_iff_not];omega)])
    rw [show ((0:Nat):Int)=0 from rfl] at out
    rw [out];rfl
  · rw [cond_t (by simpa using c)]
    rcases he with rfl | rfl | rfl | rfl
    · exact absurd rfl c
    · rfl
    · rfl
    · rfl
section
variable {N:Nums} {P:Program} (H:AllOk N P)
include H
theorem near12_f {r c:Int} {sa:Option Addr} {na ma:Nat} {la:List Nat} {w:World} (hA:Reals w sa na ma la) (hG:tab64 N.g_1 w) :
    CallsX P N.f_w12_LowerNear #[.agg #[.int .i64 r,.int .i64 c,.slice sa na ma]] w fun v w'=>v = .bool true∧∃ M,St w w' M:=by
  have hS:=((Ho.start w).arg own_nil hG).arg (own_cons rfl own_nil) (.ofReals hA)
  exact wk_w12_LowerNear H hS (Ent.rd mp0) (Ent.rd mp1) (lowerNear12 _ _ _) fun w1 h=>⟨rfl,h.some_old⟩
end
end Go.Eng
