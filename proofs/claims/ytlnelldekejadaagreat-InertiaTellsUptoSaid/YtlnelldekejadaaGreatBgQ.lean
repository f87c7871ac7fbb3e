/-
  Long division by words: what is guessed of a quotient's word. No condition.
-/
import Derived.Test.YtlnelldekejadaaGreatBw3
import Derived.Test.YtlnelldekejadaaGreatBgW
set_option linter.all false
set_option maxRecDepth 100000
set_option maxHeartbeats 4000000
open Go.IntKind (i64 u64)
open Option renaming bind_some→AA
open Nat renaming add_mul→AB,mul_le_mul_right→AC,div_add_mod→AD,one_mul→AF,mul_comm→AG,lt_of_lt_of_le→AH,mod_eq_of_lt→AJ,lt_of_mul_lt_mul_right→AK,div_lt_iff_lt_mul→AL,pow_add→AM,pow_succ→AN,pow_le_pow_right→AO,div_eq_of_lt→AP,mul_right_comm→AQ,lt_of_le_of_lt→AR,lt_or_ge→AS,mod_lt→AT,lt_mul_div_succ→AU,div_le_self→AZ,mul_lt_mul_of_pos_right→BA,mul_le_mul→BB,add_mul_mod_self_right→BC,mul_assoc→BD,div_div_eq_div_mul→BE,div_eq_zero_iff_lt→BF,add_zero→BG,two_pow_pos→BH,le_div_iff_mul_le→BI,mul_add→BK,div_mul_le_self→BL,add_sub_cancel→BM,div_mod_unique→BN,zero_mul→BO,mod_one→BP,pow_mul→BQ
open Int renaming toNat_natCast→AE,natCast_add→AV,natAbs_natCast→AW
open List renaming length_set→AI,eq_nil_of_length_eq_zero→AY,length_replicate→BJ
open BitVec renaming ofInt→AX
namespace Go.Eng
open Go
structure Rd (P top next vr V h u2 ur u q:Nat):Prop where
 pos:0<P
 hV:V=(top*4294967296+next)*P+vr
 vr:vr<P
 t0:2147483648≤top
 t1:top<4294967296
 n1:next<4294967296
 hu:u=(h*4294967296+u2)*P+ur
 ur:ur<P
 u2:u2<4294967296
 lt:u<V*4294967296
 q0:q*V≤u
 q1:u<(q+1)*V
section
variable {P top next vr V h u2 ur u q:Nat}
theorem Rd.expand (R:Rd P top next vr V h u2 ur u q) (g:Nat):g*V=g*top*P*4294967296+g*next*P+g*vr:=by
 rw [R.hV,BK,← BD,BK,AB]
 have:g*(top*4294967296)*P=g*top*P*4294967296:=by rw [← BD,AQ]
 rw [this]
theorem Rd.uexp (R:Rd P top next vr V h u2 ur u q):u=h*P*4294967296+u2*P+ur:=by
 rw [R.hu,AB,AQ]
theorem Rd.u2P (R:Rd P top next vr V h u2 ur u q):u2*P≤4294967295*P:=AC _ (by have:=R.u2;omega)
theorem Rd.below (R:Rd P top next vr V h u2 ur u q):q*top≤h:=by
 have e:=R.expand q
 have c:=R.uexp
 have d:=R.u2P
 have f:=R.q0
 have g:=R.ur
 generalize q*next*P=a at *
 generalize q*vr=b at *
 have:q*top*P<(h+1)*P:=by
  rw [AB]
  generalize q*top*P=x at *
  generalize h*P=y at *
  generalize u2*P=z at *
  omega
 exact Nat.le_of_lt_succ (AK this)
theorem Rd.qlt (R:Rd P top next vr V h u2 ur u q):q≤4294967295:=by
 have a:=AR R.q0 R.lt
 rw [AG] at a
 have:=Nat.lt_of_mul_lt_mul_left a
 omega
theorem Rd.hle (R:Rd P top next vr V h u2 ur u q):h≤top*4294967296+4294967295:=by
 have e:=R.expand 1
 have b:=R.uexp
 have c:=R.lt
 have d:=R.vr
 have f:next*P≤4294967295*P:=AC _ (by have:=R.n1;omega)
 rw [AF,AF,AF,AF] at e
 have:h*P<(top*4294967296+4294967296)*P:=by
  rw [AB,AQ]
  generalize next*P=a at *
  generalize top*P=x at *
  generalize h*P=y at *
  generalize u2*P=z at *
  omega
 have:=AK this
 omega
theorem Rd.less (R:Rd P top next vr V h u2 ur u q) {g r:Nat} (hg:g*top+r=h) (hn:r*4294967296+u2<g*next) (hq:q≤g):q<g:=by
 rcases AS q g with c | c
 · exact c
 · exfalso
   obtain rfl:q=g:=by omega
   have e:=R.expand q
   have f:=R.uexp
   have i:=R.q0
   have j:=R.ur
   generalize q*vr=b at *
   have d:(r*4294967296+u2+1)*P≤q*next*P:=AC _ (by omega)
   have k:h*P=q*top*P+r*P:=by rw [← hg,AB]
   rw [AB,AB,AQ,AF] at d
   generalize q*next*P=a at *
   generalize q*top*P=x at *
   generalize h*P=y at *
   generalize u2*P=z at *
   generalize r*P=t at *
   omega
theorem Rd.near (R:Rd P top next vr V h u2 ur u q) {g r:Nat} (hg:g*top+r=h) (hn:g*next≤r*4294967296+u2) (hb:g≤4294967295):g≤q+1:=by
 rcases AS (q+1) g with c | c
 · exfalso
   have e:=R.expand g
   have i:=R.uexp
   have j:=R.q1
   have k:(q+1)*V+V≤g*V:=by
    have:(q+2)*V≤g*V:=AC _ (by omega)
    rw [show q+2=(q+1)+1 by omega,AB (q+1),AF] at this
    exact this
   have d:g*next*P≤(r*4294967296+u2)*P:=AC _ hn
   rw [AB,AQ r] at d
   have l:h*P=g*top*P+r*P:=by rw [← hg,AB]
   have m:g*vr≤4294967295*P:=BB hb (by have:=R.vr;omega)
   have f:=R.expand 1
   rw [AF,AF,AF,AF] at f
   have n:1*P≤top*P:=AC _ (by have:=R.t0;omega)
   have o:=R.pos
   generalize (q+1)*V=qv at *
   generalize g*V=gv at *
   generalize g*vr=b at *
   generalize g*next*P=a at *
   generalize g*top*P=x at *
   generalize h*P=y at *
   generalize u2*P=z at *
   generalize r*P=t at *
   generalize top*P=tp at *
   generalize next*P=np at *
   omega
 · exact c
theorem Gh0 (R:Rd P top next vr V h u2 ur u q) {l:List Int} {i n:Int} {k:Nat} (hk:i64.wrap (i64.wrap (i+n)-2)=(k:Int)) (hl:atI l (k:Int)=some (u2:Int)) :
 ∃ g:Nat,Af5 (Az3 l i n (next:Int) (top:Int)) FU (((h/top:Nat):Int),((h%top:Nat):Int))=some (g:Int)∧q≤g∧g≤q+1∧g≤4294967295:=by
 have t0:=R.t0
 have t1:=R.t1
 have n1:=R.n1
 have ab:=R.u2
 have hle:=R.hle
 have hql:=R.qlt
 obtain ⟨o,e,g,m,p⟩:=Du6 (b:=Az3 l i n (next:Int) (top:Int)) (fun s=>∃ g r:Nat,s=((g:Int),(r:Int))∧g*top+r=h∧r<4294967296∧q≤g∧g≤4294967298) (fun s=>4294967296-s.2.toNat)
  (fun o=>∃ g:Nat,o=(g:Int)∧q≤g∧g≤q+1∧g≤4294967295) (fun s=>by
  rintro ⟨g,r,rfl,hg,hr,hq,hb⟩
  -- what one step down does
  have down:q<g→∃ g' r':Nat,g'=g-1∧r'=r+top∧g'*top+r'=h∧q≤g'∧u64.wrap ((g:Int)-1)=(g':Int)∧u64.wrap ((r:Int)+u64.wrap (top:Int))=(r':Int)∧r<r':=by
   intro e
   refine ⟨g-1,r+top,rfl,rfl,?_,by omega,?_,?_,by omega⟩
   · obtain ⟨g',rfl⟩:∃ g',g=g'+1:=⟨g-1,by omega⟩
     rw [AB,AF] at hg
     rw [BM]
     omega
   · rw [show (g:Int)-1=((g-1:Nat):Int) by omega,Ap1 (by omega)]
   · rw [Ap1 (n:=top) (by omega),← AV,Ap1 (by omega)]
  have fin:∀ g' r':Nat,g'*top+r'=h→q≤g'→4294967296≤r'→g'≤4294967295∧g'≤q+1:=by
   intro g' r' c d f
   have hg':g'≤4294967295:=by
    rcases AS 4294967295 g' with j | j
    · have t:4294967296*top≤g'*top:=AC _ j
      generalize g'*top=x at *
      omega
    · exact j
   refine ⟨hg',R.near c ?_ hg'⟩
   have t:g'*next≤4294967295*4294967295:=BB hg' (by omega)
   generalize g'*next=x at *
   omega
  have step:q<g→((∃ s',(cond (decide ((u64.wrap ((r:Int)+(u64.wrap (top:Int))))>4294967295))
   (some (Sum.inr (α:=Int×Int) (u64.wrap ((g:Int)-1))))
   (some (.inl ((u64.wrap ((g:Int)-1)),(u64.wrap ((r:Int)+(u64.wrap (top:Int))))))))=some (.inl s')∧(∃ g r:Nat,s'=((g:Int),(r:Int))∧g*top+r=h∧r<4294967296∧q≤g∧g≤4294967298)∧4294967296-s'.2.toNat<4294967296-((r:Int)).toNat) ∨
   (∃ o,(cond (decide ((u64.wrap ((r:Int)+(u64.wrap (top:Int))))>4294967295))
    (some (Sum.inr (α:=Int×Int) (u64.wrap ((g:Int)-1))))
    (some (.inl ((u64.wrap ((g:Int)-1)),(u64.wrap ((r:Int)+(u64.wrap (top:Int))))))))=some (.inr o)∧∃ g:Nat,o=(g:Int)∧q≤g∧g≤q+1∧g≤4294967295)):=by
   intro e
   obtain ⟨g',r',e0,ac,c,d,f,v,e5⟩:=down e
   rw [f,v]
   by_cases hc:4294967295<r'
   · right
     rw [Ab0 (by simp;omega)]
     obtain ⟨y,z⟩:=fin g' r' c d (by omega)
     exact ⟨_,rfl,g',rfl,d,z,y⟩
   · left
     rw [Ab1 (by simp;omega)]
     refine ⟨_,rfl,⟨g',r',rfl,c,by omega,d,by omega⟩,?_⟩
     simp only [AE]
     omega
  unfold Az3
  dsimp only
  by_cases hc:4294967295<g
  · rw [Ab1 (by simp;omega)]
    exact step (by omega)
  · rw [Ab0 (by simp;omega),hk,hl,AA]
    have hp:g*next≤4294967295*4294967295:=BB (by omega) (by omega)
    have c:u64.wrap ((g:Int)*u64.wrap (next:Int))=((g*next:Nat):Int):=by
     rw [Ap1 (n:=next) (by omega),← Int.natCast_mul,Ap1 (by omega)]
    have d:u64.wrap ((AX u64.bits (u64.wrap ((r:Int)*2^(min (32:Int).toNat u64.bits))) ||| AX u64.bits (u64.wrap (u2:Int))).toNat:Int)=((r*4294967296+u2:Nat):Int):=by
     have f:(r:Int)*2^(min (32:Int).toNat u64.bits)=((r*4294967296:Nat):Int):=by rw [Ez5];simp
     rw [f,Ap1 (n:=r*4294967296) (by omega),Ap1 (n:=u2) (by omega),Gt1 (by omega) (by omega),Nat.or_comm]
     have:=Br5 (a:=u2) (b:=r) (s:=32) (by omega)
     rw [show (4294967296:Nat)=2^32 from rfl,this,Ap1 (by omega),Nat.add_comm]
    rw [c,d]
    by_cases aa:r*4294967296+u2<g*next
    · rw [Ab0 (by simp;omega)]
      exact step (R.less hg aa hq)
    · rw [Ab1 (by simp;omega)]
      right
      exact ⟨_,rfl,g,rfl,hq,R.near hg (by omega) (by omega),by omega⟩) FU (((h/top:Nat):Int),((h%top:Nat):Int)) (by
  have hm:=AT h (show top>0 by omega)
  have hd:=AD h top
  rw [AG] at hd
  refine ⟨h/top,h%top,rfl,hd,by omega,?_,?_⟩
  · exact (BI (by omega)).2 R.below
  · have:h/top<4294967298:=(AL (by omega)).2 (by omega)
    omega) (by rw [Af4];simp only [AE];omega)
 subst m
 exact ⟨g,e,p⟩
end
end Go.Eng
/-
  Long division by words: what is taken away, what is given back, one round. No condition.
-/
namespace Go.Eng
open Go
theorem Fd8 (U a b:Nat):U/4294967296^a/4294967296^b=U/4294967296^(a+b):=by
 rw [BE,AM]
theorem Ai7 (U a:Nat):U/4294967296^(a+1)=U/4294967296^a/4294967296:=by
 rw [BE,AN]
theorem Cf7 {l:List Int} (h:Wd l) {k y:Nat} (hk:k<l.length) (hy:y<4294967296):wv (l.set k (y:Int))+dg (wv l) k*4294967296^k=wv l+y*4294967296^k∧wv (l.set k (y:Int))/4294967296^(k+1)=wv l/4294967296^(k+1):=by
 have e:=Ct1 (l:=l) (y:Int) hk
 have c:(l.getD k 0).toNat=dg (wv l) k:=by rw [← Gi9 h k];exact AE _
 rw [c,AE] at e
 refine ⟨e,?_⟩
 have hp:=Ac5 k
 have d:=AD (wv l) (4294967296^k)
 have j:=AT (wv l) hp
 have m:=AD (wv l/4294967296^k) 4294967296
 have n:wv l/4294967296^k%4294967296=dg (wv l) k:=rfl
 rw [Ai7,Ai7]
 have f:wv (l.set k (y:Int))/4294967296^k=wv l/4294967296^k/4294967296*4294967296+y:=by
  generalize wv l/4294967296^k/4294967296=hi at *
  generalize wv l%4294967296^k=lo at *
  generalize dg (wv l) k=x at *
  generalize wv (l.set k (y:Int))=a at *
  generalize wv l/4294967296^k=z at *
  generalize wv l=b at *
  generalize 4294967296^k=p at *
  have g:z=hi*4294967296+x:=by omega
  subst g
  have i:p*(hi*4294967296+x)=hi*4294967296*p+x*p:=by rw [AG,AB]
  rw [i] at d
  refine Nat.div_eq_of_lt_le ?_ ?_
  · rw [AB]
    omega
  · rw [AB,AB,AF]
    omega
 rw [f]
 omega
theorem Fb7 {x a d:Nat} (hx:x<4294967296) (ha:a<4294967296) (hd:d≤1) :
 ∃ y e:Nat,IntKind.u32.wrap (u64.wrap (u64.wrap ((x:Int)-(a:Int))-(d:Int)))=(y:Int)∧(u64.wrap (u64.wrap ((x:Int)-(a:Int))-(d:Int))).fdiv (2^(min (63:Int).toNat u64.bits))=(e:Int)∧y+a+d=x+e*4294967296∧y<4294967296∧e≤1:=by
 have key:u64.wrap (u64.wrap ((x:Int)-(a:Int))-(d:Int))=(((18446744073709551616+x-a-d)%18446744073709551616:Nat):Int):=by
  rw [w64,w64];omega
 rw [key,Cz9,Hd5,fdn]
 by_cases h:a+d≤x
 · have b:(18446744073709551616+x-a-d)%18446744073709551616=x-a-d:=by omega
   rw [b]
   refine ⟨_,_,rfl,rfl,?_,by omega,?_⟩
   · have:(x-a-d)/2^63=0:=AP (by omega)
     rw [this];omega
   · have:(x-a-d)/2^63=0:=AP (by omega)
     rw [this];omega
 · have b:(18446744073709551616+x-a-d)%18446744073709551616=18446744073709551616+x-a-d:=by omega
   rw [b]
   have:(18446744073709551616+x-a-d)/2^63=1:=by omega
   refine ⟨_,_,rfl,rfl,?_,by omega,?_⟩
   · rw [this];omega
   · rw [this];omega
theorem Fc6 {h u:Nat} (hh:h<4294967296) (hu:u<4294967296):u64.wrap ((AX u64.bits (u64.wrap ((u64.wrap (h:Int))*2^(min (32:Int).toNat u64.bits))) ||| AX u64.bits (u64.wrap (u:Int))).toNat:Int)=((h*4294967296+u:Nat):Int):=by
 rw [Ap1 (n:=h) (by omega)]
 have c:(h:Int)*2^(min (32:Int).toNat u64.bits)=((h*4294967296:Nat):Int):=by rw [Ez5];simp
 rw [c,Ap1 (n:=h*4294967296) (by omega),Ap1 (n:=u) (by omega),Gt1 (by omega) (by omega),Nat.or_comm]
 have:=Br5 (a:=u) (b:=h) (s:=32) (by omega)
 rw [show (4294967296:Nat)=2^32 from rfl,this,Ap1 (by omega),Nat.add_comm]
theorem Fi0 {v u:List Int} {j g n:Nat} (hv:Wd v) (hn:v.length=n) (hu:Wd u) (hg:g≤4294967295) (hj:j+n<u.length) (hb:u.length≤8589934592) :
 ∃ (c d:Nat) (u1:List Int),Af5 (Au8 (n:Int) v (j:Int) (g:Int)) FU (0,0,0,u)=some ((c:Int),(d:Int),u1)∧c<4294967296∧d≤1∧Wd u1∧u1.length=u.length ∧
   wv u1+g*wv v*4294967296^j=wv u+(c+d)*4294967296^(n+j)∧wv u1/4294967296^(n+j)=wv u/4294967296^(n+j):=by
 obtain ⟨o,ho,c,d,u1,rfl,t,l,f,m,k,r⟩:=Ag0 (b:=Au8 (n:Int) v (j:Int) (g:Int)) (fun i s=>∃ (c d:Nat) (u1:List Int),s=((c:Int),(d:Int),(i:Int),u1)∧c<4294967296∧d≤1∧Wd u1∧u1.length=u.length ∧
  wv u1+g*(wv v%4294967296^i)*4294967296^j=wv u+(c+d)*4294967296^(i+j)∧wv u1/4294967296^(i+j)=wv u/4294967296^(i+j)) n
  (fun o=>∃ (c d:Nat) (u1:List Int),o=((c:Int),(d:Int),u1)∧c<4294967296∧d≤1∧Wd u1∧u1.length=u.length ∧
  wv u1+g*wv v*4294967296^j=wv u+(c+d)*4294967296^(n+j)∧wv u1/4294967296^(n+j)=wv u/4294967296^(n+j)) (by rw [Af4];omega) (fun i s hi=>by
  rintro ⟨c,d,u1,rfl,t,l,f,m,k,r⟩
  unfold Au8
  simp only [AA]
  have hvi:=Am1 (wv v) i
  have hk:i+j<u1.length:=by omega
  have hx:=Am1 (wv u1) (i+j)
  have hp:g*dg (wv v) i≤4294967295*4294967295:=BB hg (by omega)
  rw [Ab0 (by simp;omega),An1 hv (by omega),AA,Bs0 (by omega),An1 f hk]
  simp only [AA,AE]
  generalize hxe:dg (wv u1) (i+j)=x at *
  generalize hve:dg (wv v) i=vi at *
  rw [Ap1 (n:=vi) (by omega),← Int.natCast_mul,Ap1 (n:=g*vi) (by omega),← AV,Ap1 (n:=c+g*vi) (by omega),Cz9,Ap1 (n:=x) (by omega),Ap1 (n:=(c+g*vi)%4294967296) (by omega)]
  obtain ⟨y,e,hy,he,hye,hyl,hel⟩:=Fb7 (x:=x) (a:=(c+g*vi)%4294967296) (d:=d) hx (AT _ (by omega)) l
  rw [hy,he,Ez5,fdn,wrU (by omega)]
  obtain ⟨z,s2⟩:=Cf7 f hk hyl
  rw [hxe] at z
  refine ⟨_,rfl,(c+g*vi)/2^32,e,_,rfl,by omega,hel,Bi5 f (by omega) (by omega),by rw [AI];exact m,?_,?_⟩
  · rw [show (2:Nat)^32=4294967296 from rfl,show i+1+j=i+j+1 by omega,Ae1,hve]
    have hdm:=AD (c+g*vi) 4294967296
    generalize hlow:(c+g*vi)%4294967296=low at *
    generalize hhi:(c+g*vi)/4294967296=hi at *
    generalize wv (u1.set (i+j) (y:Int))=a at *
    generalize wv u1=b at *
    have e1:g*(wv v%4294967296^i+vi*4294967296^i)*4294967296^j=g*(wv v%4294967296^i)*4294967296^j+g*vi*4294967296^(i+j):=by
     rw [BK,AB,AM]
     congr 1
     ac_rfl
    rw [e1,AN]
    generalize 4294967296^(i+j)=p at *
    generalize g*(wv v%4294967296^i)*4294967296^j=q at *
    -- a + x p = b + y p,  b + q = U + (c + d) p,  y + low + d = x + e B,  B hi + low = c + g vi
    have f1:y*p+low*p+d*p=x*p+e*4294967296*p:=by rw [← AB,← AB,hye,AB]
    have f2:4294967296*hi*p+low*p=c*p+g*vi*p:=by rw [← AB,hdm,AB]
    have f3:(c+d)*p=c*p+d*p:=AB ..
    have f4:(hi+e)*(p*4294967296)=4294967296*hi*p+e*4294967296*p:=by
     rw [AB]
     congr 1
     · ac_rfl
     · ac_rfl
    rw [f4]
    rw [f3] at k
    omega
  · rw [show i+1+j=i+j+1 by omega,s2,Ai7,r,← Ai7]) (fun s=>by
  rintro ⟨c,d,u1,rfl,t,l,f,m,k,r⟩
  unfold Au8
  simp only [AA]
  rw [Ab1 (by simp)]
  refine ⟨_,rfl,c,d,u1,rfl,t,l,f,m,?_,r⟩
  rw [Ay7 (by rw [← hn];exact Cm0 hv)] at k
  exact k) ⟨0,0,u,rfl,by omega,by omega,hu,rfl,by simp [BP],rfl⟩
 exact ⟨c,d,u1,ho,t,l,f,m,k,r⟩
theorem Fb5 {v u:List Int} {j n:Nat} (hv:Wd v) (hn:v.length=n) (hu:Wd u) (hj:j+n<u.length) (hb:u.length≤8589934592) :
 ∃ (c:Nat) (u1:List Int),Af5 (Au7 (n:Int) (j:Int) v) FU (0,0,u)=some ((c:Int),u1)∧c≤1∧Wd u1∧u1.length=u.length ∧
   wv u1+c*4294967296^(n+j)=wv u+wv v*4294967296^j∧wv u1/4294967296^(n+j)=wv u/4294967296^(n+j):=by
 obtain ⟨o,ho,c,u1,rfl,k,d,e,f,g⟩:=Ag0 (b:=Au7 (n:Int) (j:Int) v) (fun i s=>∃ (c:Nat) (u1:List Int),s=((c:Int),(i:Int),u1)∧c≤1∧Wd u1∧u1.length=u.length ∧
  wv u1+c*4294967296^(i+j)=wv u+(wv v%4294967296^i)*4294967296^j∧wv u1/4294967296^(i+j)=wv u/4294967296^(i+j)) n
  (fun o=>∃ (c:Nat) (u1:List Int),o=((c:Int),u1)∧c≤1∧Wd u1∧u1.length=u.length ∧
  wv u1+c*4294967296^(n+j)=wv u+wv v*4294967296^j∧wv u1/4294967296^(n+j)=wv u/4294967296^(n+j)) (by rw [Af4];omega) (fun i s hi=>by
  rintro ⟨c,u1,rfl,k,d,e,f,g⟩
  unfold Au7
  simp only [AA]
  have hvi:=Am1 (wv v) i
  have hk:i+j<u1.length:=by omega
  have hx:=Am1 (wv u1) (i+j)
  rw [Ab0 (by simp;omega),Bs0 (by omega),An1 d hk,An1 hv (by omega)]
  simp only [AA,AE]
  generalize hxe:dg (wv u1) (i+j)=x at *
  generalize hve:dg (wv v) i=vi at *
  rw [Ap1 (n:=x) (by omega),Ap1 (n:=vi) (by omega),← AV,Ap1 (n:=x+vi) (by omega),← AV,Ap1 (n:=c+(x+vi)) (by omega),Cz9,Ez5,fdn,wrU (by omega)]
  obtain ⟨l,m⟩:=Cf7 d hk (y:=(c+(x+vi))%4294967296) (AT _ (by omega))
  rw [hxe] at l
  refine ⟨_,rfl,(c+(x+vi))/2^32,_,rfl,by omega,Bi5 d (by omega) (by omega),by rw [AI];exact e,?_,?_⟩
  · rw [show (2:Nat)^32=4294967296 from rfl,show i+1+j=i+j+1 by omega,Ae1,hve]
    have hdm:=AD (c+(x+vi)) 4294967296
    generalize hlow:(c+(x+vi))%4294967296=y at *
    generalize hhi:(c+(x+vi))/4294967296=hi at *
    generalize wv (u1.set (i+j) (y:Int))=a at *
    generalize wv u1=b at *
    have r:(wv v%4294967296^i+vi*4294967296^i)*4294967296^j=(wv v%4294967296^i)*4294967296^j+vi*4294967296^(i+j):=by
     rw [AB,AM]
     congr 1
     ac_rfl
    rw [r,AN]
    generalize 4294967296^(i+j)=p at *
    generalize (wv v%4294967296^i)*4294967296^j=q at *
    have z:4294967296*hi*p+y*p=c*p+(x*p+vi*p):=by rw [← AB,hdm,AB,AB]
    have t:hi*(p*4294967296)=4294967296*hi*p:=by ac_rfl
    rw [t]
    omega
  · rw [show i+1+j=i+j+1 by omega,m,Ai7,g,← Ai7]) (fun s=>by
  rintro ⟨c,u1,rfl,k,d,e,f,g⟩
  unfold Au7
  simp only [AA]
  rw [Ab1 (by simp)]
  refine ⟨_,rfl,c,u1,rfl,k,d,e,?_,g⟩
  rw [Ay7 (by rw [← hn];exact Cm0 hv)] at f
  exact f) ⟨0,u,rfl,by omega,hu,rfl,by simp [BP],rfl⟩
 exact ⟨c,u1,ho,k,d,e,f,g⟩
end Go.Eng
/-
  Long division by words: one round, all rounds. No condition.
-/
namespace Go.Eng
open Go
theorem Eb8 {U k:Nat} (h:U<4294967296^(k+1)):dg U k=U/4294967296^k:=by
 unfold dg
 refine AJ ?_
 refine (AL (Ac5 k)).2 ?_
 rw [AN,AG] at h
 exact h
theorem Ha6 {V U j n:Nat} (hV:V<4294967296^(n+2)) (ht:2147483648*4294967296^(n+1)≤V) (hU:U<V*4294967296^(j+1)) :
 Rd (4294967296^n) (dg V (n+1)) (dg V n) (V%4294967296^n) V (dg U (j+n+2)*4294967296+dg U (j+n+1)) (dg U (j+n)) (U/4294967296^j%4294967296^n) (U/4294967296^j) (U/4294967296^j/V):=by
 have hp:=Ac5 n
 have hVp:0<V:=AH (Nat.mul_pos (by omega) (Ac5 (n+1))) ht
 have hUb:U<4294967296^(j+n+2+1):=by
  refine AH hU ?_
  have:=AC (4294967296^(j+1)) (Nat.le_of_lt hV)
  rw [← AM,show n+2+(j+1)=j+n+2+1 by omega] at this
  exact this
 have a:dg V (n+1)=V/4294967296^(n+1):=Eb8 hV
 have b:V/4294967296^n=dg V (n+1)*4294967296+dg V n:=by
  rw [a,Ai7]
  have:=AD (V/4294967296^n) 4294967296
  unfold dg
  omega
 refine ⟨hp,?_,AT _ hp,?_,Am1 _ _,Am1 _ _,?_,AT _ hp,Am1 _ _,?_,BL _ _,?_⟩
 · rw [← b,AG];exact (AD _ _).symm
 · rw [a];exact (BI (Ac5 _)).2 ht
 · have c:U/4294967296^j/4294967296^n=(dg U (j+n+2)*4294967296+dg U (j+n+1))*4294967296+dg U (j+n):=by
    rw [Fd8,Eb8 hUb,show j+n+2=j+n+1+1 from rfl,Ai7 U (j+n+1)]
    have e:=AD (U/4294967296^(j+n+1)) 4294967296
    have d:=AD (U/4294967296^(j+n)) 4294967296
    rw [← Ai7] at d
    unfold dg
    omega
   rw [← c,AG];exact (AD _ _).symm
 · refine (AL (Ac5 j)).2 ?_
   rw [AN] at hU
   rw [BD,AG 4294967296]
   exact hU
 · rw [AG];exact AU _ hVp
theorem Co0 (V q j:Nat):(q*V)*4294967296^j=q*(V*4294967296^j):=BD ..
theorem round_t' {v u ql:List Int} {j n m:Nat} (hv:Wd v) (hn:v.length=n+2) (ht:2147483648*4294967296^(n+1)≤wv v) (hu:Wd u) (hj:j+(n+2)<u.length) (hb:u.length≤8589934592) (hU:wv u<wv v*4294967296^(j+1))
 (hq:Wd ql) (hql:j<ql.length) (hqb:ql.length≤8589934592) (af:wv ql%4294967296^(j+1)=0) :
 ∃ ql' u':List Int,Aq5 ((n+2:Nat):Int) ((dg (wv v) (n+1):Nat):Int) ((dg (wv v) n:Nat):Int) v ((j:Int),ql,u)=some (.inl (i64.wrap ((j:Int)-1),ql',u'))∧Wd ql'∧ql'.length=ql.length∧Wd u'∧u'.length=u.length ∧
   wv ql'=wv ql+wv u/4294967296^j/wv v*4294967296^j∧wv u'+wv u/4294967296^j/wv v*wv v*4294967296^j=wv u∧wv ql'%4294967296^j=0:=by
 have hV:wv v<4294967296^(n+2):=by rw [← hn];exact Cm0 hv
 have R:=Ha6 (j:=j) hV ht hU
 generalize hQ:wv u/4294967296^j/wv v=q at *
 have hUb:wv u<4294967296^(n+2+j+1):=by
  refine AH hU ?_
  have:=AC (4294967296^(j+1)) (Nat.le_of_lt hV)
  rw [← AM] at this
  exact this
 have t0:=R.t0
 have t1:=R.t1
 have ag:=Am1 (wv u) (j+n+1)
 have ah:=Am1 (wv u) (j+n+2)
 -- the guess
 obtain ⟨g,hgl,aq,ar,ai⟩:=Gh0 (l:=u) (i:=(j:Int)) (n:=((n+2:Nat):Int)) (k:=j+n) R (by rw [Bs0 (by omega),wrI (by omega) (by omega)];omega) (An1 hu (by omega))
 -- what is taken away
 obtain ⟨c,d,u1,hul,hc,hd,s,ab,aj,ak⟩:=Fi0 (j:=j) (g:=g) hv hn hu ai hj hb
 have hk:n+2+j<u1.length:=by omega
 have hx:=Am1 (wv u1) (n+2+j)
 obtain ⟨y,e,hy,he,hye,hyl,hel⟩:=Fb7 (x:=dg (wv u1) (n+2+j)) (a:=c) (d:=d) hx hc hd
 obtain ⟨s1,s2⟩:=Cf7 s hk hyl
 have ac:wv (u1.set (n+2+j) (y:Int))<4294967296^(n+2+j+1):=by
  have z:wv u/4294967296^(n+2+j+1)=0:=AP hUb
  have e2:wv (u1.set (n+2+j) (y:Int))/4294967296^(n+2+j+1)=0:=by
   rw [s2,Ai7,ak,← Ai7];exact z
  exact (BF (Ac5 _)).1 e2
 -- as numbers
 have hval:wv (u1.set (n+2+j) (y:Int))+g*wv v*4294967296^j=wv u+e*4294967296^(n+2+j+1):=by
  rw [AN]
  generalize dg (wv u1) (n+2+j)=x at *
  generalize 4294967296^(n+2+j)=p at *
  have f1:y*p+c*p+d*p=x*p+e*4294967296*p:=by rw [← AB,← AB,hye,AB]
  have f3:(c+d)*p=c*p+d*p:=AB ..
  have f4:e*(p*4294967296)=e*4294967296*p:=by ac_rfl
  rw [f4]
  rw [f3] at aj
  generalize g*wv v*4294967296^j=gv at *
  generalize wv (u1.set (n+2+j) (y:Int))=a at *
  generalize wv u1=b at *
  generalize wv u=U at *
  omega
 have hqU:q*wv v*4294967296^j≤wv u:=by
  have:=AC (4294967296^j) R.q0
  exact Nat.le_trans this (BL _ _)
 have hqU1:wv u<(q+1)*wv v*4294967296^j:=by
  have h1:=R.q1
  have h2:wv u<(wv u/4294967296^j+1)*4294967296^j:=by
   rw [AG];exact AU _ (Ac5 j)
  exact AH h2 (AC _ h1)
 have fdg:wv u/4294967296^j<4294967296^(n+2+1):=(AL (Ac5 j)).2 (by rw [← AM];rw [show n+2+1+j=n+2+j+1 by omega];exact hUb)
 -- the quotient's word
 have au:=R.qlt
 have hset:∀ gg:Nat,gg=q→Wd (ql.set j ((q:Nat):Int))∧(ql.set j ((q:Nat):Int)).length=ql.length∧wv (ql.set j ((q:Nat):Int))=wv ql+q*4294967296^j∧wv (ql.set j ((q:Nat):Int))%4294967296^j=0:=by
  intro gg _
  obtain ⟨t,r2⟩:=Cf7 hq hql (y:=q) (by omega)
  have hp:=Ac5 j
  have z1:wv ql%4294967296^j=0∧dg (wv ql) j=0:=by
   have:=Ae1 (wv ql) j
   rw [af] at this
   have h3:wv ql%4294967296^j=0:=by omega
   refine ⟨h3,?_⟩
   rw [h3,Nat.zero_add] at this
   rcases Nat.mul_eq_zero.1 this.symm with h4 | h4
   · exact h4
   · omega
  rw [z1.2,BO,BG] at t
  refine ⟨Bi5 hq (by omega) (by omega),by rw [AI],t,?_⟩
  rw [t,BC]
  exact z1.1
 -- the walk
 have hstep:∀ (gg:Nat) (u':List Int),gg=q→(((atI ql (j:Int)).bind fun av=>(some (ql.set ((j:Int)).toNat (IntKind.u32.wrap ((gg:Nat):Int)))).bind fun al=>some (Sum.inl (α:=Int×List Int×List Int) (β:=List Int×List Int) ((i64.wrap ((j:Int)-1)),al,u'))))=some (.inl (i64.wrap ((j:Int)-1),ql.set j ((q:Nat):Int),u')):=by
  intro gg u' hgg
  subst hgg
  rw [An1 hq hql,AA,AA,AE,Cz9,AJ (by omega)]
 unfold Aq5
 dsimp only
 rw [Ab0 (by simp),Bs0 (by omega),show i64.wrap (((j+(n+2):Nat):Int)-1)=((j+n+1:Nat):Int) by rw [wrI (by omega) (by omega)];omega]
 rw [show j+(n+2)=j+n+2 by omega,An1 hu (by omega),AA,An1 hu (by omega),AA,Ap1 (n:=dg (wv v) (n+1)) (by omega)]
 have nzt:nz ((dg (wv v) (n+1):Nat):Int)=some ():=by unfold nz;rw [if_pos (by omega)]
 rw [nzt,AA,AA,Fc6 ah ag]
 have am:dg (wv u) (j+n+2)*4294967296+dg (wv u) (j+n+1)<18446744073709551616:=by omega
 rw [show (((dg (wv u) (j+n+2)*4294967296+dg (wv u) (j+n+1):Nat):Int)).tdiv ((dg (wv v) (n+1):Nat):Int)=(((dg (wv u) (j+n+2)*4294967296+dg (wv u) (j+n+1))/dg (wv v) (n+1):Nat):Int) from rfl,
  show (((dg (wv u) (j+n+2)*4294967296+dg (wv u) (j+n+1):Nat):Int)).tmod ((dg (wv v) (n+1):Nat):Int)=(((dg (wv u) (j+n+2)*4294967296+dg (wv u) (j+n+1))%dg (wv v) (n+1):Nat):Int) from rfl,
  Ap1 (AR (AZ _ _) am),hgl,AA,hul,AA]
 dsimp only
 rw [show ((j+n+2:Nat):Int)=((n+2+j:Nat):Int) by omega,An1 s hk]
 simp only [AA,AE]
 rw [Ap1 (n:=dg (wv u1) (n+2+j)) (by omega),hy,he]
 by_cases an:e=0
 · subst an
   rw [BO,BG] at hval
   have hgq:g=q:=by
    have h1:g<q+1:=by
     have:g*wv v*4294967296^j<(q+1)*wv v*4294967296^j:=by omega
     rw [Co0,Co0] at this
     exact AK this
    omega
   rw [Ab1 (by simp),AA]
   dsimp only
   have:=hstep g (u1.set (n+2+j) (y:Int)) hgq
   obtain ⟨a1,a2,a3,a4⟩:=hset g hgq
   refine ⟨_,_,this,a1,a2,Bi5 s (by omega) (by omega),by rw [AI];exact ab,a3,?_,a4⟩
   rw [← hgq];exact hval
 · obtain rfl:e=1:=by omega
   rw [AF] at hval
   have hgq:g=q+1:=by
    have h1:q<g:=by
     have:q*wv v*4294967296^j<g*wv v*4294967296^j:=by omega
     rw [Co0,Co0] at this
     exact AK this
    omega
   rw [Ab0 (by simp)]
   obtain ⟨r,o,hgv,aw,aa,ad,ax,ao⟩:=Fb5 (u:=u1.set (n+2+j) (y:Int)) (j:=j) hv hn (Bi5 s (by omega) (by omega)) (by rw [AI];omega) (by rw [AI];omega)
   rw [AI] at ad
   rw [hgv,AA]
   dsimp only
   have ae:n+2+j<o.length:=by omega
   rw [An1 aa ae]
   simp only [AA,AE]
   have ay:=Am1 (wv o) (n+2+j)
   rw [Cz9,AJ (show r<4294967296 by omega),← AV,Cz9]
   obtain ⟨t,r2⟩:=Cf7 aa ae (y:=(dg (wv o) (n+2+j)+r)%4294967296) (AT _ (by omega))
   have z:u64.wrap ((g:Int)-1)=((q:Nat):Int):=by
    rw [show (g:Int)-1=((q:Nat):Int) by omega,Ap1 (by omega)]
   rw [z]
   have:=hstep q (o.set (n+2+j) (((dg (wv o) (n+2+j)+r)%4294967296:Nat):Int)) rfl
   obtain ⟨a1,a2,a3,a4⟩:=hset q rfl
   refine ⟨_,_,this,a1,a2,Bi5 aa (by omega) (by omega),by rw [AI,ad];exact ab,a3,?_,a4⟩
   have ap:wv (o.set (n+2+j) (((dg (wv o) (n+2+j)+r)%4294967296:Nat):Int))<4294967296^(n+2+j+1):=by
    have e2:wv (o.set (n+2+j) (((dg (wv o) (n+2+j)+r)%4294967296:Nat):Int))/4294967296^(n+2+j+1)=0:=by
     rw [r2,Ai7,ao,← Ai7];exact AP ac
    exact (BF (Ac5 _)).1 e2
   have hdm:=AD (dg (wv o) (n+2+j)+r) 4294967296
   have f5:g*wv v*4294967296^j=q*wv v*4294967296^j+wv v*4294967296^j:=by rw [hgq,AB,AB,AF]
   rw [f5] at hval
   generalize hyy:(dg (wv o) (n+2+j)+r)%4294967296=y3 at *
   have hf:(dg (wv o) (n+2+j)+r)/4294967296≤1:=by omega
   generalize (dg (wv o) (n+2+j)+r)/4294967296=f at *
   generalize dg (wv o) (n+2+j)=x3 at *
   rw [AN] at ap ac hval
   generalize wv (o.set (n+2+j) (y3:Int))=b4 at *
   generalize wv (u1.set (n+2+j) (y:Int))=b2 at *
   generalize wv o=b3 at *
   generalize q*wv v*4294967296^j=qv at *
   generalize wv v*4294967296^j=vv at *
   generalize wv u=U at *
   generalize 4294967296^(n+2+j)=p at *
   have g1:f*4294967296*p+y3*p=x3*p+r*p:=by rw [← AB,← AB];congr 1;omega
   have g2:f=0∨f=1:=by omega
   rcases g2 with rfl | rfl
   · exfalso
     omega
   · omega
end Go.Eng
/-
  Long division of words is division. No condition.
-/
namespace Go.Eng
open Go
theorem Fl0 {a:Nat} (h:a<18446744073709551616):Bb9 (W a)=some (a:Int):=by
 have hlen:(W a).length≤2:=An5 (by simpa using h)
 unfold Bb9
 simp only [AA]
 by_cases c:a=0
 · subst c;rw [Ap5];rfl
 have hl:(W a).length≠0:=fun e=>c (Cs5.1 (AY e))
 have g:=Am1 a 0
 rw [Ab0 (by simp;omega),show (0:Int)=((0:Nat):Int) from rfl,An1 (Bk2 a) (by omega),AA,AA,Bf0,Ap1 (n:=dg a 0) (by omega)]
 by_cases d:a<4294967296
 · have:(W a).length≤1:=An5 (by simpa using d)
   rw [Ab1 (by simp;omega),AA]
   rw [Ce8,AJ d]
 · have:(W a).length=2:=by
    rcases AS 1 (W a).length with k | k
    · omega
    · exfalso
      have:=Ad2 a
      have i:(4294967296:Nat)^(W a).length≤4294967296^1:=AO (by omega) k
      omega
   have j:=Am1 a 1
   rw [Ab0 (by simp;omega),show (1:Int)=((1:Nat):Int) from rfl,An1 (Bk2 a) (by omega),AA,AA,Bf0]
   congr 1
   rw [Ap1 (n:=dg a 1) (by omega)]
   have f:((dg a 1:Nat):Int)*2^(min (32:Int).toNat u64.bits)=((dg a 1*4294967296:Nat):Int):=by rw [Ez5];simp
   rw [f,Ap1 (n:=dg a 1*4294967296) (by omega),Gt1 (by omega) (by omega)]
   have:=Br5 (a:=dg a 0) (b:=dg a 1) (s:=32) (by omega)
   rw [show (4294967296:Nat)=2^32 from rfl,this,Ap1 (by omega)]
   unfold dg
   simp only [Nat.pow_zero,Nat.pow_one,Nat.div_one]
   omega
theorem Gc1 {a b:Nat} (g:0<b) (hb:b<4294967296) (ha:(W a).length≤1073741824):Bh6 (W a) (b:Int)=some (W (a/b),((a%b:Nat):Int)):=by
 unfold Bh6
 simp only [AA]
 generalize hn:(W a).length=n at *
 rw [Bb0 (by omega),AA]
 obtain ⟨o,ho,r,ql,rfl,hr,hw,hl,hv⟩:=Ag0 (b:=Aw2 (W a) (b:Int)) (fun i s=>∃ (r:Nat) (ql:List Int),s=((r:Int),((n:Nat):Int)-1-(i:Int),ql)∧r<b∧Wd ql∧ql.length=n∧wv ql*b+r*4294967296^(n-i)+a%4294967296^(n-i)=a∧wv ql%4294967296^(n-i)=0) n
  (fun o=>∃ (r:Nat) (ql:List Int),o=((r:Int),ql)∧r<b∧Wd ql∧ql.length=n∧wv ql*b+r=a) (by rw [Af4];omega) (fun i s hi=>by
  rintro ⟨r,ql,rfl,hr,hw,hl,hv,hz⟩
  unfold Aw2
  dsimp only
  obtain ⟨k,hk⟩:∃ k,n-i=k+1:=⟨n-i-1,by omega⟩
  have v:((n:Nat):Int)-1-(i:Int)=(k:Int):=by omega
  have hd:=Am1 a k
  have nzt:nz (u64.wrap (b:Int))=some ():=by unfold nz;rw [Ap1 (by omega),if_pos (by omega)]
  rw [Ab0 (by simp;omega),v,An1 (Bk2 a) (by omega),AA,Bf0,nzt,AA,An1 hw (by omega)]
  simp only [AA,AE]
  have hx:u64.wrap ((AX u64.bits (u64.wrap ((r:Int)*2^(min (32:Int).toNat u64.bits))) ||| AX u64.bits (u64.wrap ((dg a k:Nat):Int))).toNat:Int)=((r*4294967296+dg a k:Nat):Int):=by
   have:=Fc6 (h:=r) (u:=dg a k) (by omega) hd
   rw [Ap1 (n:=r) (by omega)] at this
   exact this
  rw [hx,Ap1 (n:=b) (by omega)]
  rw [show (((r*4294967296+dg a k:Nat):Int)).tdiv (b:Int)=(((r*4294967296+dg a k)/b:Nat):Int) from rfl,show (((r*4294967296+dg a k:Nat):Int)).tmod (b:Int)=(((r*4294967296+dg a k)%b:Nat):Int) from rfl]
  have hq:(r*4294967296+dg a k)/b<4294967296:=by
   refine (AL g).2 ?_
   have:(r+1)*4294967296≤b*4294967296:=AC _ hr
   rw [AG 4294967296]
   omega
  have hdm:=AD (r*4294967296+dg a k) b
  have hml:=AT (r*4294967296+dg a k) g
  generalize hqq:(r*4294967296+dg a k)/b=q at *
  generalize hrr:(r*4294967296+dg a k)%b=r' at *
  rw [Ap1 (n:=q) (by omega),Cz9,AJ hq]
  obtain ⟨j,s2⟩:=Cf7 hw (k:=k) (y:=q) (by omega) hq
  rw [hk] at hz hv
  have l:wv ql%4294967296^k=0∧dg (wv ql) k=0:=by
   have:=Ae1 (wv ql) k
   rw [hz] at this
   have m:wv ql%4294967296^k=0:=by omega
   refine ⟨m,?_⟩
   rw [m,Nat.zero_add] at this
   have hp:=Ac5 k
   rcases Nat.mul_eq_zero.1 this.symm with p | p
   · exact p
   · omega
  rw [l.2,BO,BG] at j
  refine ⟨_,rfl,r',ql.set k ((q:Nat):Int),?_,hml,Bi5 hw (by omega) (by omega),by rw [AI];exact hl,?_,?_⟩
  · rw [wrI (n:=(k:Int)-1) (by omega) (by omega)]
    congr 1
    congr 1
    omega
  · rw [show n-(i+1)=k by omega,j]
    rw [Ae1,AN] at hv
    have f1:b*q*4294967296^k+r'*4294967296^k=r*4294967296*4294967296^k+dg a k*4294967296^k:=by rw [← AB,hdm,AB]
    have x:(wv ql+q*4294967296^k)*b=wv ql*b+b*q*4294967296^k:=by
     rw [AB];congr 1;ac_rfl
    have z:r*(4294967296^k*4294967296)=r*4294967296*4294967296^k:=by ac_rfl
    rw [x]
    rw [z] at hv
    generalize b*q*4294967296^k=x1 at *
    generalize r'*4294967296^k=x2 at *
    generalize r*4294967296*4294967296^k=x3 at *
    generalize dg a k*4294967296^k=x4 at *
    generalize a%4294967296^k=x5 at *
    generalize wv ql*b=x6 at *
    omega
  · rw [show n-(i+1)=k by omega,j,BC];exact l.1) (fun s=>by
  rintro ⟨r,ql,rfl,hr,hw,hl,hv,hz⟩
  unfold Aw2
  dsimp only
  rw [Ab1 (by simp;omega)]
  refine ⟨_,rfl,r,ql,rfl,hr,hw,hl,?_⟩
  simpa [BP] using hv) (s0:=(((0:Nat):Int),i64.wrap ((n:Int)-1),List.replicate n 0)) ⟨0,List.replicate n 0,by rw [wrI (by omega) (by omega)];simp,g,Cs9 n,by simp,by
   rw [Cg4,Nat.sub_zero,Ay7 (by rw [← hn];exact Ad2 a)];simp,by rw [Cg4];simp⟩
 rw [show (0:Int)=((0:Nat):Int) from rfl] at *
 rw [ho,AA]
 dsimp only
 rw [show ((0:Nat):Int)=(0:Int) from rfl]
 have e:=BN g (a:=a) (d:=wv ql) (c:=r)
 have t:a/b=wv ql∧a%b=r:=e.2 ⟨by rw [AG];omega,hr⟩
 rw [Aw4 hw (by omega) (f:=fun aa=>some (aa,IntKind.u32.wrap (r:Int))),t.1,t.2,Cz9,AJ (by omega)]
theorem Ft8 {m:Nat} {s:List Int} (h:s.length≤m):Fd1 (List.replicate m 0) s=s++List.replicate (m-s.length) 0:=by
 unfold Fd1
 rw [BJ,List.take_of_length_le h,List.drop_replicate]
theorem Fv9 {v u ql:List Int} {n m:Nat} (hv:Wd v) (hn:v.length=n+2) (ht:2147483648*4294967296^(n+1)≤wv v) (hu:Wd u) (hm:m+(n+2)+1=u.length) (hb:u.length≤8589934592) (hU:wv u<wv v*4294967296^(m+1))
 (hq:Wd ql) (hql:ql.length=m+1) (t:wv ql=0) :
 ∃ ql' u':List Int,Af5 (Aq5 ((n+2:Nat):Int) ((dg (wv v) (n+1):Nat):Int) ((dg (wv v) n:Nat):Int) v) FU ((m:Int),ql,u)=some (ql',u')∧Wd ql'∧ql'.length=m+1∧Wd u'∧u'.length=u.length∧wv ql'*wv v+wv u'=wv u∧wv u'<wv v:=by
 obtain ⟨o,ho,ql',u',rfl,f,g,c,z,h5,h6⟩:=Ag0 (b:=Aq5 ((n+2:Nat):Int) ((dg (wv v) (n+1):Nat):Int) ((dg (wv v) n:Nat):Int) v) (fun i s=>∃ a u1:List Int,s=((m:Int)-(i:Int),a,u1)∧Wd a∧a.length=m+1∧Wd u1∧u1.length=u.length∧wv a*wv v+wv u1=wv u∧wv u1<wv v*4294967296^(m+1-i)∧wv a%4294967296^(m+1-i)=0) (m+1)
  (fun o=>∃ a u1:List Int,o=(a,u1)∧Wd a∧a.length=m+1∧Wd u1∧u1.length=u.length∧wv a*wv v+wv u1=wv u∧wv u1<wv v) (by rw [Af4];omega) (fun i s hi=>by
  rintro ⟨a,u1,rfl,k,x,l,y,p,d,r⟩
  obtain ⟨j,hj⟩:∃ j,m+1-i=j+1:=⟨m-i,by omega⟩
  rw [hj] at d r
  obtain ⟨q2,u2,e,b1,b2,b3,b4,b5,b6,b7⟩:=round_t' (m:=0) hv hn ht l (j:=j) (by omega) (by omega) d k (by omega) (by omega) r
  refine ⟨_,by rw [show (m:Int)-(i:Int)=(j:Int) by omega];exact e,q2,u2,?_,b1,by omega,b3,by omega,?_,?_,?_⟩
  · rw [wrI (by omega) (by omega)]
    congr 1
    omega
  · generalize wv u1/4294967296^j/wv v=q at *
    rw [b5,← p,AB]
    have:q*4294967296^j*wv v=q*wv v*4294967296^j:=by ac_rfl
    rw [this];omega
  · rw [show m+1-(i+1)=j by omega]
    have hVp:0<wv v:=AH (Nat.mul_pos (by omega) (Ac5 (n+1))) ht
    have f:=AU (wv u1/4294967296^j) hVp
    have g:wv u1<(wv u1/4294967296^j+1)*4294967296^j:=by
     rw [AG];exact AU _ (Ac5 j)
    generalize wv u1/4294967296^j/wv v=q at *
    have c:=AH g (AC (4294967296^j) f)
    rw [BK,Nat.mul_one,AB] at c
    have:wv v*q*4294967296^j=q*wv v*4294967296^j:=by ac_rfl
    rw [this] at c
    omega
  · rw [show m+1-(i+1)=j by omega];exact b7) (fun s=>by
  rintro ⟨a,u1,rfl,k,x,l,y,p,d,r⟩
  unfold Aq5
  dsimp only
  rw [Ab1 (by simp;omega)]
  refine ⟨_,rfl,a,u1,rfl,k,x,l,y,p,?_⟩
  simpa using d) (s0:=((m:Int),ql,u)) ⟨ql,u,by simp,hq,hql,hu,rfl,by rw [t];simp,by simpa using hU,by rw [t];simp⟩
 exact ⟨ql',u',ho,f,g,c,z,h5,h6⟩
theorem Hc0 {a b:Nat} (p:b≠0) (ha:(W a).length≤1073741824) (hb:(W b).length≤1073741824):Bx7 (W a) (W b)=some (W (a/b),W (a%b)):=by
 have hbl:(W b).length≠0:=fun e=>p (Cs5.1 (AY e))
 unfold Bx7
 rw [AA,Ab1 (by rw [beq_eq_false_iff_ne];omega),Fp7 (by omega) (by omega),AA]
 by_cases hlt:a<b
 · rw [if_pos hlt,Ab0 (by decide),Ff8 (by omega),AA,AP hlt,AJ hlt,Ap5]
 rw [if_neg hlt,Ab1 (by split<;>decide),AA]
 by_cases h2:(W a).length≤2
 · have g:a<18446744073709551616:=by
    have c:(4294967296:Nat)^(W a).length≤4294967296^2:=AO (by omega) h2
    have:=Ad2 a
    omega
   have nzt:nz (b:Int)=some ():=by unfold nz;rw [if_pos (by omega)]
   rw [Ab0 (by simp;omega),Fl0 g,AA,Fl0 (by omega),AA,nzt,AA,AA,
    show ((a:Int)).tdiv (b:Int)=((a/b:Nat):Int) from rfl,show ((a:Int)).tmod (b:Int)=((a%b:Nat):Int) from rfl,Ap1 (AR (AZ _ _) g),
    Dl8 (AR (AZ _ _) g),AA,Dl8 (AR (Nat.mod_le _ _) g),AA]
 rw [Ab1 (by simp;omega),AA]
 by_cases r:(W b).length=1
 · have t:b<4294967296:=by
    have:=Ad2 b
    rw [r] at this
    simpa using this
   rw [Ab0 (by rw [r];rfl),show (0:Int)=((0:Nat):Int) from rfl,An1 (Bk2 b) (by omega),AA,Bf0,Ce8,AJ t,Gc1 (by omega) t ha,AA]
   dsimp only
   have hw:Wd [((a%b:Nat):Int)]:=Bu9 (by omega) (by have:=AT a (show 0<b by omega);omega) Ds3
   have:wv [((a%b:Nat):Int)]=a%b:=by simp only [wv];omega
   rw [AA,show ((0:Nat):Int)=(0:Int) from rfl,Aw4 hw (by simp),this]
 rw [Ab1 (by rw [beq_eq_false_iff_ne];omega),Ep9 (by omega),AA]
 -- the divisor is brought to the left
 have hbB:4294967296≤b:=by
  have c:=Dl1 p
  have d:(4294967296:Nat)^1≤4294967296^((W b).length-1):=AO (by omega) (by omega)
  omega
 have hL33:33≤blN b:=by
  rcases AS (blN b) 33 with c | c
  · have:=Bx1.1 (show blN b≤32 by omega)
    omega
  · exact c
 have hLu:blN b≤32*(W b).length:=Bx1.2 (by rw [BQ];exact Ad2 b)
 generalize hL:blN b=L at *
 have hs:u64.wrap (i64.wrap ((i64.wrap (32-((i64.wrap ((L:Int)-1)).tmod 32)))-1))=((31-(L-1)%32:Nat):Int):=by
  rw [wrI (n:=(L:Int)-1) (by omega) (by omega),show ((L:Int)-1)=((L-1:Nat):Int) by omega,show (((L-1:Nat):Int)).tmod 32=(((L-1)%32:Nat):Int) from rfl,wrI (n:=32-(((L-1)%32:Nat):Int)) (by omega) (by omega),wrI (n:=32-(((L-1)%32:Nat):Int)-1) (by omega) (by omega),
   show (32:Int)-(((L-1)%32:Nat):Int)-1=((31-(L-1)%32:Nat):Int) by omega,Ap1 (by omega)]
 rw [hs]
 generalize hS:31-(L-1)%32=s at *
 have ac:s<32:=by omega
 obtain ⟨k,hk⟩:∃ k,L+s=32*(k+2):=⟨(L+s)/32-2,by omega⟩
 have ps:=BH s
 have hbu:b<2^L:=Bx1.1 (by omega)
 have hbg:2^(L-1)≤b:=by
  rcases AS b (2^(L-1)) with c | c
  · have:=Bx1.2 c;omega
  · exact c
 have hVu:b*2^s<4294967296^(k+2):=by
  have:=BA hbu ps
  rw [← AM,hk,BQ] at this
  exact this
 have hVl:2147483648*4294967296^(k+1)≤b*2^s:=by
  have:=AC (2^s) hbg
  rw [← AM,show L-1+s=31+32*(k+1) by omega,AM,BQ] at this
  exact this
 have hVlen:(W (b*2^s)).length=k+2:=by
  have c:=An5 hVu
  rcases AS (W (b*2^s)).length (k+2) with d | d
  · have h5:=Ad2 (b*2^s)
    have h6:(4294967296:Nat)^(W (b*2^s)).length≤4294967296^(k+1):=AO (by omega) (by omega)
    have:=Ac5 (k+1)
    omega
  · omega
 have hAu:a*2^s<4294967296^((W a).length+1):=by
  rw [AN]
  have c:=Ad2 a
  have d:(2:Nat)^s≤4294967296:=by
   have:(2:Nat)^s≤2^32:=AO (by omega) (by omega)
   simpa using this
  exact AH (BA c ps) (Nat.mul_le_mul_left _ d)
 have hAlen:=An5 hAu
 have hkb:k+2≤(W b).length:=by omega
 have hba:(W b).length≤(W a).length:=Bc0 (by omega)
 rw [Fb3 (by omega) (by omega),AA,AA]
 have e2:i64.wrap ((((W a).length:Nat):Int)+2)=(((W a).length+2:Nat):Int):=Bs0 (b:=2) (by omega)
 rw [e2,Bb0 (by omega),AA,Fb3 (by omega) (by omega),AA,AA,Ft8 (by omega)]
 generalize i:W (a*2^s)++List.replicate ((W a).length+2-(W (a*2^s)).length) 0=u at *
 have huw:Wd u:=by rw [← i];exact Eb1 (Bk2 _) (Cs9 _)
 have hul:u.length=(W a).length+2:=by rw [← i,List.length_append,BJ];omega
 have huv:wv u=a*2^s:=by rw [← i,Cc1,Cg4,Nat.mul_zero,BG,Bf0]
 simp only [AA]
 rw [hVlen,hul]
 obtain ⟨m,hm⟩:∃ m,(W a).length+2=m+(k+2)+1:=⟨(W a).length+1-(k+2),by omega⟩
 have e3:i64.wrap ((i64.wrap ((((W a).length+2:Nat):Int)-((k+2:Nat):Int)))-1)=(m:Int):=by
  rw [wrI (n:=(((W a).length+2:Nat):Int)-((k+2:Nat):Int)) (by omega) (by omega),wrI (by omega) (by omega)];omega
 have e4:i64.wrap (((k+2:Nat):Int)-1)=((k+1:Nat):Int):=by rw [wrI (by omega) (by omega)];omega
 have e5:i64.wrap (((k+2:Nat):Int)-2)=(k:Int):=by rw [wrI (by omega) (by omega)];omega
 rw [e3,wrU (by omega),Bb0 (by omega),AA,e4,e5,An1 (Bk2 _) (by omega),AA,An1 (Bk2 _) (by omega),AA]
 obtain ⟨ql,u',hit,c1,c2,x,c4,y,z⟩:=Fv9 (v:=W (b*2^s)) (u:=u) (ql:=List.replicate (m+1) 0) (n:=k) (m:=m) (Bk2 _) hVlen (by rw [Bf0];exact hVl) huw (by omega) (by omega) (by
  rw [Bf0,huv]
  have c:1*4294967296^(k+1)≤b*2^s:=Nat.le_trans (AC _ (by omega)) hVl
  have d:=AC (4294967296^(m+1)) c
  rw [AF,← AM,show k+1+(m+1)=(W a).length+1 by omega] at d
  exact AH hAu d) (Cs9 _) (by simp) (Cg4 _)
 rw [hit,AA]
 dsimp only
 rw [Bf0] at y z
 rw [huv] at y
 have hbp:0<b*2^s:=by omega
 have j:a*2^s/(b*2^s)=wv ql∧a*2^s%(b*2^s)=wv u':=(BN hbp).2 ⟨by rw [AG];omega,z⟩
 rw [Nat.mul_div_mul_right _ _ ps,Nat.mul_mod_mul_right] at j
 rw [Aw4 c1 (by omega) (f:=fun aa=>(Ag5 u').bind fun ab=>(Cd8 u' 0 ab).bind fun l=>(Ar3 l ((s:Nat):Int)).bind fun o=>some (aa,o)),Aw4 x (by omega) (f:=fun l=>(Ar3 l ((s:Nat):Int)).bind fun o=>some (W (wv ql),o)),
  Do9 (by omega) (by have:=An5 (Cm0 x);omega),AA,← j.1,← j.2,Nat.mul_div_cancel _ ps]
end Go.Eng
/-
  Division and a shift to the right of whole numbers of any size: contracts on items that stand for whole numbers. No condition.
-/
namespace Go.Eng
open Go
def Cj0 (x y:Int):Option Int:=if y=0 then none else (Bw8 x).bind fun x=>(Bw8 y).bind fun y=>some (x.tdiv y)
def Bi9 (z n:Int):Option Int:=if 0≤n∧n<18446744073709551616 then (Bw8 z).bind fun z=>some (z.fdiv (2^n.toNat)) else none
theorem Go1 {z n y:Int} (h:Bi9 z n=some y):Bf7 (decide (z<0)) (W z.natAbs) n=some (decide (y<0),W y.natAbs):=by
 unfold Bi9 at h
 split at h
 · rename_i hn
   obtain ⟨c,d⟩:=Ag4 h
   obtain rfl:=Option.some.inj d
   obtain ⟨k,rfl⟩:∃ k:Nat,n=k:=⟨n.toNat,by omega⟩
   have hl:=As3 c
   rw [AE]
   unfold Bf7
   by_cases hz:z<0
   · obtain ⟨m,rfl⟩:∃ m:Nat,z = -((m+1:Nat):Int):=⟨z.natAbs-1,by omega⟩
     have b:([1]:List Int)=W 1:=by decide +kernel
     have e:(-((m+1:Nat):Int)).natAbs=m+1:=by omega
     rw [e] at hl ⊢
     have f:(-((m+1:Nat):Int)).fdiv (2^k) = -((m/2^k+1:Nat):Int):=by
      have hp:(0:Int)<2^k:=by have:=BH k;exact_mod_cast this
      rw [Int.fdiv_eq_ediv_of_nonneg _ (by omega)]
      have g:=BH k
      have hd:=AD m (2^k)
      have hm:=AT m g
      have i:(2:Int)^k=((2^k:Nat):Int):=by simp
      rw [i]
      generalize 2^k=p at *
      generalize hq:m/p=q at *
      have:(-((m+1:Nat):Int))=((p-1-m%p:Nat):Int)+((p:Nat):Int)*(-((q+1:Nat):Int)):=by
       have j:((p:Nat):Int)*(-((q+1:Nat):Int)) = -(((p*q:Nat):Int)+(p:Int)):=by
        rw [Int.mul_neg];push_cast;rw [Int.mul_add,Int.mul_one]
       rw [j];omega
      rw [this,Int.add_mul_ediv_left _ _ (by omega),Int.ediv_eq_zero_of_lt (by omega) (by omega)]
      omega
     have hq:m/2^k≤m:=AZ m (2^k)
     have hr:=Do9 (a:=m) (n:=k) (by omega) (by have:=Bc0 (show m≤m+1 by omega);omega)
     rw [decide_eq_true hz,cT,f]
     simp only [AA]
     rw [b,Gk8 (by omega) (by omega),AA,BM,hr,AA]
     generalize m/2^k=q at *
     rw [Gm6 (by have:=Bc0 (show q≤m+1 by omega);omega) (by rw [← b];simp),AA,Ch9,Int.natAbs_neg,AW,decide_eq_true (show q+1≠0 by omega),decide_eq_true (show -((q+1:Nat):Int)<0 by omega)]
     rfl
   · obtain ⟨m,rfl⟩:∃ m:Nat,z=(m:Int):=⟨z.toNat,by omega⟩
     rw [decide_eq_false hz,cF,AW,Do9 (by omega) (by rw [AW] at hl;omega),AA,AA,Bool.false_and,fdn,AW,decide_eq_false (Int.not_lt.2 (Int.natCast_nonneg _))]
 · cases h
section
variable {N:Nums} {P:Program} (H:AllOk N P) {w0 w:World} {L:List It}
include H
theorem Ef4 {r:Nat} {a:Option Addr} {n c:Nat} {z v:Int}  {q:Int} {K:Value→World→Prop} (hS:Ho w0 w (bg N.Hr0 N.Hq9 r a n c z::L))  (h:Bi9 z q=some v) (hK:∀ (d:Option Addr) (e f:Nat) (b:World),Ho w0 b (bg N.Hr0 N.Hq9 r d e f v::L)→K (.pointer (some ⟨r,0,none⟩)) b):Aa1 P N.Hr1 #[.pointer (some ⟨r,0,none⟩),.pointer (some ⟨r,0,none⟩),.int .u64 q] w K:=
 Ci1 H hS.bgOpen (Ent.sl mp0) (Go1 h) fun d e f b g=>hK d e f b (Ho.bgShut g.drop3 rfl rfl)
theorem Cu2 {r:Nat} {a:Option Addr} {n c:Nat} {z v:Int} {ry:Nat} {ay:Option Addr} {ny cy:Nat} {y:Int} {K:Value→World→Prop} (hS:Ho w0 w (bg N.Hr0 N.Hq9 r a n c z::L)) (hy:Ent L (bgR N.Hr0 ry ay ny cy y)) (h:Cj0 z y=some v) (hK:∀ (f:Option Addr) (g j:Nat) (b:World),Ho w0 b (bg N.Hr0 N.Hq9 r f g j v::L)→K (.pointer (some ⟨r,0,none⟩)) b):Aa1 P N.Hs0 #[.pointer (some ⟨r,0,none⟩),.pointer (some ⟨r,0,none⟩),.pointer (some ⟨ry,0,none⟩)] w K:=by
 unfold Cj0 at h
 split at h
 · cases h
 rename_i x
 obtain ⟨l,h⟩:=Ag4 h
 obtain ⟨m,h⟩:=Ag4 h
 obtain rfl:=Option.some.inj h
 have hd:Bx7 (W z.natAbs) (W y.natAbs)=some (W (z.natAbs/y.natAbs),W (z.natAbs%y.natAbs)):=Hc0 (by omega) (As3 l) (As3 m)
 refine H.bI_Quo _ _ _ w _ ?_
 unfold El5
 refine Ab2 hS ?_
 clear hS;intro d w hS
 refine H.bI_QuoRem _ _ _ _ w _ ?_
 unfold Cq3
 have hz:=Ent.bg (L:=cl d [.bool false,.slice none 0 0] N.Hr0::bg N.Hr0 N.Hq9 r a n c z::L) mp1
 have hy':=hy.mono (L':=cl d [.bool false,.slice none 0 0] N.Hr0::bg N.Hr0 N.Hq9 r a n c z::L) tl2
 refine Ac0 ?_
 refine ⟨_,hz.bgS.cel (i:=0) (fun _ h=>h) hS rfl,?_⟩
 refine Ac0 ?_
 refine ⟨_,hy'.bgS.cel (i:=0) (fun _ h=>h) hS rfl,?_⟩
 refine Aa7 hS ?_;clear hS;intro w hS
 refine Ac0 ?_
 refine ⟨_,_,_,hz.bgS.cel (i:=1) (fun _ h=>h) hS rfl,?_⟩
 refine Ac0 ?_
 refine ⟨_,_,_,hy'.bgS.cel (i:=1) (fun _ h=>h) hS rfl,?_⟩
 refine Aa7 hS ?_;clear hS;intro w hS
 refine Fc3 H hS hz.bgW hy'.bgW hd ?_
 clear hS;intro qa qn qc ta tn tc w hS
 refine ⟨_,_,_,_,_,_,rfl,?_⟩
 refine Aa7 hS ?_;clear hS;intro w hS
 -- the quotient
 replace hS:=hS.pick (A:=[_,_,_,_]) [3,0,0,0] rfl
 replace hS:=hS.bgOpen
 refine Ba9 H hS (Ent.sl mp2) ?_
 clear hS;intro w hS
 refine ⟨_,rfl,?_⟩
 -- the rest
 replace hS:=hS.pick (A:=[_,_,_,_,_]) [4,0,0,0,0] rfl
 refine Ba9 H hS (Ent.sl mp4) ?_
 clear hS;intro w hS
 refine ⟨_,rfl,?_⟩
 refine ⟨_,_,rfl,?_⟩
 have hS2:=hS.pick (A:=[_,_,_,_,_]) [1,2] rfl
 refine hK qa qn qc w (Ho.bgShut hS2 ?_ ?_)
 · rw [Ch9]
   by_cases hq:z.natAbs/y.natAbs=0
   · rw [hq,decide_eq_false (show ¬ (0≠0) by simp),Bool.and_false]
     have:z.tdiv y=0:=by
      have e:(z.tdiv y).natAbs=z.natAbs/y.natAbs:=Int.natAbs_tdiv z y
      omega
     rw [this];rfl
   · rw [decide_eq_true hq,Bool.and_true]
     have hyn:0<y.natAbs:=by omega
     have hle:y.natAbs≤z.natAbs:=by
      rcases AS z.natAbs y.natAbs with k | k
      · exact absurd (AP k) hq
      · exact k
     have key:∀ (s t:Bool) (p q:Nat),0<p→0<q→0<p/q→(!(decide (sgZ s p<0)==decide (sgZ t q<0)))=decide ((sgZ s p).tdiv (sgZ t q)<0):=by
      intro s t p q hp hq hpq
      have o:((p:Int)).tdiv (q:Int)=((p/q:Nat):Int):=rfl
      cases s<;>cases t<;>unfold sgZ<;>simp only [if_true,Bool.false_eq_true,if_false,Int.neg_tdiv,Int.tdiv_neg,o]
      · rw [decide_eq_false (by omega),decide_eq_false (by omega),decide_eq_false (by omega)];rfl
      · rw [decide_eq_false (by omega),decide_eq_true (by omega),decide_eq_true (by omega)];rfl
      · rw [decide_eq_true (by omega),decide_eq_false (by omega),decide_eq_true (by omega)];rfl
      · rw [decide_eq_true (by omega),decide_eq_true (by omega),decide_eq_false (by omega)];rfl
     have:=key (decide (z<0)) (decide (y<0)) z.natAbs y.natAbs (by omega) hyn (Nat.pos_of_ne_zero hq)
     rw [Fe9,Fe9] at this
     exact this
 · have e:(z.tdiv y).natAbs=z.natAbs/y.natAbs:=Int.natAbs_tdiv z y
   rw [e]
end
end Go.Eng
