/-
 Each function comes to what its function of plain Lean says, printed by a program of the session. No condition.
-/
import Derived.Test.YtlnelldekejadaaGreatWk1
set_option linter.all false
set_option maxRecDepth 100000
set_option maxHeartbeats 4000000
open Go.Value renaming int→AA
open List renaming length_map→AB
namespace Go.Eng
open Go
open Go.IntKind (i64 u64 u32 u8)
variable {N:Nums} {P:Program} (H:AllOk N P) {w0 w:World} {L:List It} {K:KV}
include H
theorem Da5 {qd qb qe qg l0_1 qf qt qs qo qp l1_1 qw u0} (hS:Ho w0 w L) (qr:EU L l0_1 qb qe qg) (qy:EU L l1_1 qs qo qp) (h:Av9 qd l0_1 qf qt l1_1 qw=some u0) (hK:∀ b,Ho w0 b L→K (.int .i64 u0) b):Aa1 P N.Hj7 #[.agg #[.bool qd,.slice qb qe qg,.int .i64 qf],.agg #[.bool qt,.slice qs qo qp,.int .i64 qw]] w K:=by
 refine H.r02_Compare qd qb qe qg qf qt qs qo qp qw w _ ?_
 unfold Cc2
 unfold Av9 at h
 try dsimp only
 refine Ab2 hS ?_;intro f w hS
 refine Ab2 hS ?_;intro g w hS
 refine ⟨_,hS.cel mp1 rfl,_,_,_,hS.cel mp1 rfl,_,hS.cel mp1 rfl,_,hS.cel mp0 rfl,_,_,_,hS.cel mp0 rfl,_,hS.cel mp0 rfl,?_⟩
 refine Aa7 hS ?_;intro w hS
 obtain ⟨t,i,h⟩:=bnd h
 refine Av8 H hS (qr.mono tl2) i ?_;rintro w hS
 refine ⟨_,rfl,?_⟩
 refine ⟨(hS.cel mp0 rfl),?_⟩
 refine ⟨(hS.cel mp0 rfl),?_⟩
 refine ⟨(hS.cel mp0 rfl),?_⟩
 refine Aa7 hS ?_;intro w hS
 obtain ⟨u,j,h⟩:=bnd h
 refine Av8 H hS (qy.mono tl2) j ?_;rintro w hS
 refine ⟨_,rfl,?_⟩
 refine Aa7 hS ?_;intro w hS
 obtain ⟨k,c,l⟩:=bnd h
 refine Aa9 (fun s w=>∃ (a:Bool),a=k∧s=(a,())∧Ho w0 w ((cl g [.bool qt,.slice qs qo qp,.int .i64 qw] N.Hp2)::(cl f [.bool qd,.slice qb qe qg,.int .i64 qf] N.Hp2)::L)) (fun v hJ3=>?_) ?_
 ·
  have h:=c
  refine Aa4 h ?_ ?_<;>intro hc h
  ·
   exact hJ3 _ _ ⟨_,Aa0 h,rfl,hS⟩
  exact hJ3 _ _ ⟨_,Aa0 h,rfl,hS⟩
 clear c hS
 rintro s w ⟨a,rfl,rfl,hS⟩
 have h:=l
 try dsimp only
 refine Aa4 h ?_ ?_<;>intro hc h
 ·
  refine Aa4 h ?_ ?_<;>intro hc h
  ·
   cases Aa0 h
   exact hK _ (hS.pick (A:=[_,_]) [] rfl)
  refine Aa4 h ?_ ?_<;>intro hc h
  ·
   cases Aa0 h
   exact hK _ (hS.pick (A:=[_,_]) [] rfl)
  cases Aa0 h
  exact hK _ (hS.pick (A:=[_,_]) [] rfl)
 refine ⟨_,hS.cel mp1 rfl,_,_,_,hS.cel mp1 rfl,_,hS.cel mp1 rfl,_,hS.cel mp0 rfl,_,_,_,hS.cel mp0 rfl,_,hS.cel mp0 rfl,?_⟩
 refine Aa7 hS ?_;intro w hS
 obtain ⟨x,m,h⟩:=bnd h
 refine Ay6 H hS (qr.mono tl2) m ?_;rintro w hS
 refine ⟨_,rfl,?_⟩
 refine ⟨(hS.cel mp0 rfl),?_⟩
 refine ⟨(hS.cel mp0 rfl),?_⟩
 refine ⟨(hS.cel mp0 rfl),?_⟩
 refine Aa7 hS ?_;intro w hS
 obtain ⟨y,n,h⟩:=bnd h
 refine Ay6 H hS (qy.mono tl2) n ?_;rintro w hS
 refine ⟨_,rfl,?_⟩
 refine Aa7 hS ?_;intro w hS
 refine Aa4 h ?_ ?_<;>intro hc h
 ·
  refine ⟨_,hS.cel mp1 rfl,_,_,_,hS.cel mp1 rfl,_,hS.cel mp1 rfl,_,hS.cel mp0 rfl,_,_,_,hS.cel mp0 rfl,_,hS.cel mp0 rfl,?_⟩
  refine Aa7 hS ?_;intro w hS
  obtain ⟨z,o,h⟩:=bnd h
  refine Ay6 H hS (qr.mono tl2) o ?_;rintro w hS
  refine ⟨_,rfl,?_⟩
  refine ⟨(hS.cel mp0 rfl),?_⟩
  refine ⟨(hS.cel mp0 rfl),?_⟩
  refine ⟨(hS.cel mp0 rfl),?_⟩
  refine Aa7 hS ?_;intro w hS
  obtain ⟨t7,p,h⟩:=bnd h
  refine Ay6 H hS (qy.mono tl2) p ?_;rintro w hS
  refine ⟨_,rfl,?_⟩
  refine Aa7 hS ?_;intro w hS
  refine Aa4 h ?_ ?_<;>intro hc h
  ·
   cases Aa0 h
   exact hK _ (hS.pick (A:=[_,_]) [] rfl)
  cases Aa0 h
  exact hK _ (hS.pick (A:=[_,_]) [] rfl)
 refine ⟨_,hS.cel mp1 rfl,_,_,_,hS.cel mp1 rfl,_,hS.cel mp1 rfl,_,hS.cel mp0 rfl,_,_,_,hS.cel mp0 rfl,_,hS.cel mp0 rfl,?_⟩
 refine Aa7 hS ?_;intro w hS
 obtain ⟨⟨t8,t9,aa⟩,d,h⟩:=bnd h
 refine Bf1 H hS (qy.mono tl2) d ?_;clear hS d;rintro w rfl hS
 refine ⟨_,_,_,_,_,rfl,?_⟩
 refine ⟨(hS.cel mp1 rfl),?_⟩
 refine ⟨(hS.cel mp1 rfl),?_⟩
 refine ⟨(hS.cel mp1 rfl),?_⟩
 refine Aa7 hS ?_;intro w hS
 obtain ⟨⟨ab,ac,ad⟩,e,h⟩:=bnd h
 refine Bd2 H hS (qr.mono tl2) (qy.mono tl2) e ?_;clear hS e;rintro ae a5 m5 c5 w q hS
 refine ⟨_,_,_,_,_,rfl,?_⟩
 refine Aa7 hS ?_;intro w hS
 obtain ⟨af,r,h⟩:=bnd h
 refine Av8 H hS (q _ mp0 (qr.mono tl3) (qy.mono tl3)) r ?_;rintro w hS
 refine ⟨_,rfl,?_⟩
 refine Aa7 hS ?_;intro w hS
 cases Aa0 h
 exact hK _ (hS.pick (A:=[_,_,_]) [] rfl)
theorem As8 {qd qb qf qk qm} {H0_2:List Hd} {f:List Dy} {u0} (hS:Ho w0 w L) (qz:Ent L (rdA (dyC f H0_2) qf (qk*3) (qm*3))) (d:AllD L f H0_2) (h:Ah6 qd qb f=some u0) (hK:∀ n,Ho w0 n L→K (.bool u0) n):Aa1 P N.Hh6 #[.agg #[.int .i64 qd,.int .i64 qb,.slice qf qk qm]] w K:=by
 refine H.r16_Symmetric qd qb qf qk qm w _ ?_
 unfold Bo7
 unfold Ah6 at h
 try dsimp only
 refine Ab2 hS ?_;intro e w hS
 obtain ⟨z,o,c2⟩:=bnd h
 refine Aa9 (fun s w=>∃ (g:Bool),g=z∧s=(g,())∧Ho w0 w ((cl e [.int .i64 qd,.int .i64 qb,.slice qf qk qm] N.Hs3)::L)) (fun J2 hJ2=>?_) ?_
 ·
  have h:=o
  refine ⟨_,hS.cel mp0 rfl,_,hS.cel mp0 rfl,_,_,_,hS.cel mp0 rfl,?_⟩
  obtain ⟨t2,aa,h⟩:=bnd h
  refine Cj2 H hS (qz.mono tl1) (d.mono tl1) aa ?_;rintro w hS
  refine ⟨_,rfl,?_⟩
  refine Aa4 h ?_ ?_<;>intro hc h
  ·
   refine ⟨_,hS.cel mp0 rfl,_,hS.cel mp0 rfl,?_⟩
   exact hJ2 _ _ ⟨_,Aa0 h,rfl,hS⟩
  exact hJ2 _ _ ⟨_,Aa0 h,rfl,hS⟩
 clear o hS
 rintro s w ⟨g,rfl,rfl,hS⟩
 have h:=c2
 try dsimp only
 refine Aa4 h ?_ ?_<;>intro hc h
 ·
  cases Aa0 h
  exact hK _ (hS.pick (A:=[_]) [] rfl)
 obtain ⟨o3,p,r⟩:=bnd h
 refine Aa9 (fun s w =>  .inl ()=o3∧s=(())∧Ho w0 w L) (fun J3 hJ3=>?_) ?_
 ·
  have h:=p
  refine Ab4 (fun s w t=>∃ (i:Int),i=t∧s=(i,())∧Ho w0 w ((cl e [.int .i64 qd,.int .i64 qb,.slice qf qk qm] N.Hs3)::L)) ?_ h ⟨_,rfl,rfl,hS⟩
  clear h hS
  rintro s w t X q ⟨i,rfl,rfl,hS⟩ h hX hO
  unfold Aw1 at h
  try dsimp only
  refine ⟨_,hS.cel mp0 rfl,?_⟩
  refine Aa4 h ?_ ?_<;>intro hc h
  ·
   obtain ⟨o4,u,v⟩:=bnd h
   refine Aa9 (fun s w =>  .inl ()=o4∧s=(())∧Ho w0 w ((cl e [.int .i64 qd,.int .i64 qb,.slice qf qk qm] N.Hs3)::L)) (fun J4 hJ4=>?_) ?_
   ·
    have h:=u
    refine Ab4 (fun s w t=>∃ (j:Int),j=t∧s=(j,())∧Ho w0 w ((cl e [.int .i64 qd,.int .i64 qb,.slice qf qk qm] N.Hs3)::L)) ?_ h ⟨_,rfl,rfl,hS⟩
    clear h hS
    rintro s w t X q ⟨j,rfl,rfl,hS⟩ h hX hO
    unfold Ak9 at h
    try dsimp only
    refine Aa4 h ?_ ?_<;>intro hc h
    ·
     refine ⟨_,_,_,hS.cel mp0 rfl,_,hS.cel mp0 rfl,?_⟩
     obtain ⟨t5,ab,h⟩:=bnd h
     obtain ⟨ai,k,l,vw,ac,ad⟩:=AllD.atE d ab
     refine Ah3 d.len ((qz.mono tl1).nw hS) vw ac ?_;intro b6 m
     refine ⟨_,(Bq3 ((qz.mono tl1).nw hS) m l k),?_⟩
     refine ⟨_,_,_,(Bm9 ((qz.mono tl1).nw hS) m l k),?_⟩
     refine ⟨_,(Bj1 ((qz.mono tl1).nw hS) m l k),?_⟩
     refine ⟨_,_,_,hS.cel mp0 rfl,_,hS.cel mp0 rfl,?_⟩
     obtain ⟨t6,ae,h⟩:=bnd h
     obtain ⟨aj,a,b,yd,af,ag⟩:=AllD.atE d ae
     refine Ah3 d.len ((qz.mono tl1).nw hS) yd af ?_;intro b8 c
     refine ⟨_,(Bq3 ((qz.mono tl1).nw hS) c b a),?_⟩
     refine ⟨_,_,_,(Bm9 ((qz.mono tl1).nw hS) c b a),?_⟩
     refine ⟨_,(Bj1 ((qz.mono tl1).nw hS) c b a),?_⟩
     refine Aa7 hS ?_;intro w hS
     obtain ⟨⟨t7,t8,t9⟩,x,h⟩:=bnd h
     refine Bk6 H hS (ad.mono tl1) x ?_;clear hS x;rintro a9 m9 c9 w hS
     refine ⟨_,_,_,_,_,rfl,?_⟩
     refine ⟨Bq3 ((qz.mono tl2).nw hS) c b a,?_⟩
     refine ⟨Bm9 ((qz.mono tl2).nw hS) c b a,?_⟩
     refine ⟨Bj1 ((qz.mono tl2).nw hS) c b a,?_⟩
     refine ⟨(hS.cel mp1 rfl),?_⟩
     refine ⟨(hS.cel mp1 rfl),?_⟩
     refine Aa7 hS ?_;intro w hS
     obtain ⟨⟨ak,al,am⟩,y,h⟩:=bnd h
     refine Bk6 H hS (ag.mono tl2) y ?_;clear hS y;rintro an ao ap w hS
     refine ⟨_,_,_,_,_,rfl,?_⟩
     refine Aa7 hS ?_;intro w hS
     obtain ⟨aq,ah,h⟩:=bnd h
     refine Da5 H hS (Ent.sl mp1) (Ent.sl mp0) ah ?_;rintro w hS
     refine ⟨_,rfl,?_⟩
     refine Aa7 hS ?_;intro w hS
     refine Aa4 h ?_ ?_<;>intro hc h
     ·
      obtain rfl:=Aa0 h
      have h:=congrArg some (hO _ rfl)
      obtain rfl:=Aa0 h
      have h:=v
      obtain rfl:=Aa0 h
      have h:=congrArg some (hO _ rfl)
      obtain rfl:=Aa0 h
      have h:=r
      cases Aa0 h
      exact hK _ (hS.pick (A:=[_,_,_]) [] rfl)
     obtain rfl:=Aa0 h
     exact hX _ rfl _ _ ⟨_,rfl,rfl,(hS.pick (A:=[_,_,_]) [2] rfl)⟩
    obtain rfl:=Aa0 h
    have h:=congrArg some (hO _ rfl)
    exact hJ4 _ _ ⟨Aa0 h,rfl,hS⟩
   clear u hS
   rintro s w ⟨rfl,rfl,hS⟩
   have h:=v
   try dsimp only
   obtain rfl:=Aa0 h
   exact hX _ rfl _ _ ⟨_,rfl,rfl,hS⟩
  obtain rfl:=Aa0 h
  have h:=congrArg some (hO _ rfl)
  obtain rfl:=Aa0 h
  exact hJ3 _ _ ⟨rfl,rfl,(hS.pick (A:=[_]) [] rfl)⟩
 clear p hS
 rintro s w ⟨rfl,rfl,hS⟩
 have h:=r
 try dsimp only
 cases Aa0 h
 exact hK _ hS
theorem Bg1 {B:List It} {qd qb qf qk qm} {H0_2:List Hd} {v:List Dy} {qt qs qo qp l1_1 qw} {u0:List Dy} (hS:Ho w0 w L) (hB:∀ e,e∈B→e∈L) (qz:Ent L (rdA (dyC v H0_2) qf (qk*3) (qm*3))) (x:AllD B v H0_2) (qy:Ent B (rdA (List.map (AA .u64) l1_1) qs qo qp)) (h:Ak4 qd qb v qt l1_1 qw=some u0) (hK:∀ (a0:OA) (n0 c0:Nat) (ag:List Hd) (ah:It) (w1:World),(AllD (ah::B) u0 ag)→Ho w0 w1 ((sl a0 (n0*3) (c0*3) (dyC u0 ag) N.Hp2)::ah::L)→K (.slice a0 n0 c0) w1):Aa1 P N.Hj8 #[.agg #[.int .i64 qd,.int .i64 qb,.slice qf qk qm],.agg #[.bool qt,.slice qs qo qp,.int .i64 qw]] w K:=by
 refine H.r16_Numbers qd qb qf qk qm qt qs qo qp qw w _ ?_
 unfold By4
 unfold Ak4 at h
 try dsimp only
 replace hS:=hS.voidItem
 refine Ab2 hS ?_;intro r1 w hS
 refine Ab2 hS ?_;intro r2 w hS
 obtain ⟨o9,h9,c9⟩:=bnd h
 refine Aa9 (fun s w=>∃ (y:OA) (z:Nat) (c5:Nat) (n:List Dy) (aa:List Hd) (ab:It),n=o9∧s=((y,z,c5),())∧AllD (ab::B) n aa∧Ho w0 w ((sl y (z*3) (c5*3) (dyC n aa) N.Hp2)::ab::L)) (fun J9 hJ9=>?_) ?_
 ·
  have h:=h9
  replace hS:=hS.noneD (t:=N.Hp2)
  refine Ab4 (fun s w t=>∃ (t2:Int) (a:It) (o:OA) (p:Nat) (r:Nat) (l:List Dy) (u:List Hd),(t2,l)=t∧s=((o,p,r),t2,())∧AllD (a::B) l u∧Ho w0 w ((cl r2 [.bool qt,.slice qs qo qp,.int .i64 qw] N.Hp2)::(cl r1 [.int .i64 qd,.int .i64 qb,.slice qf qk qm] N.Hs3)::(sl o (p*3) (r*3) (dyC l u) N.Hp2)::a::L)) ?_ h ⟨_,_,_,_,_,_,_,rfl,rfl,(AllD.nil (L:=(vd::B))),(hS.pick (A:=[_,_,_,_]) [1,1,0,0] rfl)⟩
  clear h hS
  rintro s w t X q ⟨t2,a,o,p,r,l,u,rfl,rfl,b,hS⟩ h hX hO
  unfold Aj8 at h
  try dsimp only
  refine ⟨_,_,_,hS.cel mp1 rfl,?_⟩
  obtain ⟨t4,ao,h⟩:=bnd h
  obtain rfl:=Eu8 ao x.len ((qz.mono tl4).nw hS)
  refine Aa4 h ?_ ?_<;>intro hc h
  ·
   refine ⟨_,_,_,hS.cel mp1 rfl,?_⟩
   obtain ⟨t5,ap,h⟩:=bnd h
   obtain ⟨a8,ac,ad,yf,aq,ar⟩:=AllD.atE x ap
   refine Ah3 x.len ((qz.mono tl4).nw hS) yf aq ?_;intro a9 ae
   refine ⟨_,(Bq3 ((qz.mono tl4).nw hS) ae ad ac),?_⟩
   refine ⟨_,_,_,(Bm9 ((qz.mono tl4).nw hS) ae ad ac),?_⟩
   refine ⟨_,(Bj1 ((qz.mono tl4).nw hS) ae ad ac),?_⟩
   obtain ⟨⟨t6,t7,t8⟩,ai,h⟩:=bnd h
   refine Bk6 H hS (ar.mono (fun e he=>tl4 e (hB e he))) ai ?_;clear hS ai;rintro ba bb bc w hS
   refine ⟨_,_,_,_,_,rfl,?_⟩
   refine Ab2 hS ?_;intro au w hS
   refine Aa8 hS rfl rfl ?_;intro w hS
   refine Aa8 hS rfl rfl ?_;intro w hS
   refine Aa8 hS rfl rfl ?_;intro w hS
   refine ⟨_,hS.cel mp3 rfl,?_⟩
   obtain ⟨be,av,h⟩:=bnd h
   refine ⟨Fo2 av,?_⟩
   refine ⟨_,hS.cel mp3 rfl,?_⟩
   obtain ⟨bf,aw,h⟩:=bnd h
   refine ⟨Fo2 aw,?_⟩
   refine Aa7 hS ?_;intro w hS
   obtain ⟨ax,aj,ay⟩:=bnd h
   refine Aa9 (fun s w=>∃ (d:Bool) (f:Int) (g:OA) (i:Nat) (j:Nat) (c:List Int) (k:It),(d,f,c)=ax∧s=(())∧Ent (k::B) (rdA (List.map (AA .u64) c) g i j)∧Ho w0 w ((cl au [.bool d,.slice g i j,.int .i64 f] N.Hp2)::(cl r2 [.bool qt,.slice qs qo qp,.int .i64 qw] N.Hp2)::(cl r1 [.int .i64 qd,.int .i64 qb,.slice qf qk qm] N.Hs3)::(sl o (p*3) (r*3) (dyC l u) N.Hp2)::a::k::L)) (fun bh hJ25=>?_) ?_
   ·
    have h:=aj
    refine Aa4 h ?_ ?_<;>intro hc h
    ·
     refine ⟨_,hS.cel mp0 rfl,_,_,_,hS.cel mp0 rfl,_,hS.cel mp0 rfl,_,hS.cel mp2 rfl,_,_,_,hS.cel mp2 rfl,_,hS.cel mp2 rfl,?_⟩
     refine Aa7 hS ?_;intro w hS
     obtain ⟨⟨bi,bj,bk⟩,ak,h⟩:=bnd h
     refine Bf1 H hS (qy.mono (fun e he=>tl6 e (hB e he))) ak ?_;clear hS ak;rintro w rfl hS
     refine ⟨_,_,_,_,_,rfl,?_⟩
     refine ⟨(hS.cel mp0 rfl),?_⟩
     refine ⟨(hS.cel mp0 rfl),?_⟩
     refine ⟨(hS.cel mp0 rfl),?_⟩
     refine Aa7 hS ?_;intro w hS
     obtain ⟨⟨bl,bm,bo⟩,al,h⟩:=bnd h
     refine Bd2 H hS (Ent.sl mp1) (qy.mono (fun e he=>tl6 e (hB e he))) al ?_;clear hS al;rintro bp bq br bs w az hS
     refine ⟨_,_,_,_,_,rfl,?_⟩
     refine Aa7 hS ?_;intro w hS
     replace hS:=ro1 hS
     refine Aa8 hS rfl rfl ?_;intro w hS
     refine Aa8 hS rfl rfl ?_;intro w hS
     refine Aa8 hS rfl rfl ?_;intro w hS
     refine Aa7 hS ?_;intro w hS
     replace hS:=ro2 hS
     replace hS:=ro2 hS
     replace hS:=hS.both
     obtain rfl:=Aa0 h
     exact hJ25 _ _ ⟨_,_,_,_,_,_,_,rfl,rfl,(az _ mp0 (Ent.sl mp1) (qy.mono tl2)).both,(hS.pick (A:=[_,_,_,_,_,_]) [1,1,1,1,1,0] rfl)⟩
    obtain rfl:=Aa0 h
    exact hJ25 _ _ ⟨_,_,_,_,_,_,_,rfl,rfl,(Ent.sl mp0),(hS.pick (A:=[_,_,_,_,_,_]) [0,1,1,1,1,0] rfl)⟩
   clear aj hS
   rintro s w ⟨d,f,g,i,j,c,k,rfl,rfl,a1,hS⟩
   have h:=ay
   try dsimp only
   refine ⟨_,hS.cel mp0 rfl,_,_,_,hS.cel mp0 rfl,_,hS.cel mp0 rfl,?_⟩
   replace hS:=ro4 hS
   replace hS:=ro5 hS
   have af:Ent (k::a::B) (rdA (List.map (AA .u64) c) g i j):=(a1.mono (Aa5 mp0 tl2))
   replace b:=b.mono (L':=k::a::B) (Aa5 mp1 tl2)
   replace hS:=hS.both
   replace af:=af.both
   replace b:=b.both
   obtain ⟨a2,a4,h⟩:=bnd h
   obtain rfl:([(d,c,f)]:List Dy)=a2:=Aa0 a4
   have am:AllD ((both k a)::B) ([(d,c,f)]:List Dy) ([(g,i,j)]:List Hd):=(.cons af .nil)
   refine Bm3 (X:=([(d,c,f)]:List Dy)) (H:=([(g,i,j)]:List Hd)) (m:=1) hS rfl rfl rfl ?_;intro bt w hS
   obtain ⟨bu,a5,h⟩:=bnd h
   obtain ⟨rfl,an⟩:=Eq9 a5
   replace hS:=ro5 hS
   have a6:=b.append am
   refine Bu3 hS an b.len am.len ((Ent.sl mp1).nw hS) rfl rfl ?_;clear hS an;intro bv bw w hS
   obtain rfl:=Aa0 h
   exact hX _ rfl _ _ ⟨_,_,_,_,_,_,_,rfl,rfl,a6,(hS.pick (A:=[_,_,_,_,_,_]) [4,4,0,1] rfl)⟩
  obtain rfl:=Aa0 h
  have h:=congrArg some (hO _ rfl)
  obtain rfl:=Aa0 h
  exact hJ9 _ _ ⟨_,_,_,_,_,_,rfl,rfl,b,(hS.pick (A:=[_,_,_,_]) [2,2] rfl)⟩
 clear h9 hS
 rintro s w ⟨y,z,c5,n,aa,ab,rfl,rfl,a7,hS⟩
 have h:=c9
 try dsimp only
 cases Aa0 h
 exact hK _ _ _ _ _ _ a7 hS
theorem Ea7 {a qj qq l0 u0} (hS:Ho w0 w L) (qx:EU L l0 a qj qq) (h:Bd7 l0=some u0) (hK:∀ d,Ho w0 d L→K (.int .i64 u0) d):Aa1 P N.Hm2 #[.slice a qj qq] w K:=by
 refine H.r16_zeros a qj qq w _ ?_
 unfold Cy5
 unfold Bd7 at h
 try dsimp only
 obtain ⟨g,e,i⟩:=bnd h
 refine Aa9 (fun s w=>∃ (b:Int),b=g∧s=(b,())∧Ho w0 w L) (fun n hJ1=>?_) ?_
 ·
  have h:=e
  refine Ab4 (fun s w t=>∃ (c:Int),c=t∧s=(c,())∧Ho w0 w L) ?_ h ⟨_,rfl,rfl,hS⟩
  clear h hS
  rintro s w t X q ⟨c,rfl,rfl,hS⟩ h hX hO
  unfold Bg3 at h
  try dsimp only
  refine ⟨by decide,?_⟩
  obtain ⟨o,j,h⟩:=bnd h
  obtain ⟨f,vo,k⟩:=atE j
  refine Ad6 (qx.nw hS) f vo k ?_;intro p l
  refine ⟨_,Ab8 (qx.nw hS) l f,?_⟩
  refine ⟨by decide,?_⟩
  obtain ⟨r,m,h⟩:=bnd h
  refine ⟨Gr2 m,?_⟩
  refine ⟨by decide,?_⟩
  refine Aa4 h ?_ ?_<;>intro hc h
  ·
   obtain rfl:=Aa0 h
   exact hX _ rfl _ _ ⟨_,rfl,rfl,hS⟩
  obtain rfl:=Aa0 h
  have h:=congrArg some (hO _ rfl)
  exact hJ1 _ _ ⟨_,Aa0 h,rfl,hS⟩
 clear e hS
 rintro s w ⟨b,rfl,rfl,hS⟩
 have h:=i
 try dsimp only
 cases Aa0 h
 exact hK _ hS
theorem Bv3 {b qj qq} {H0:List Hd} {l0:List Dy} {c u0} (hS:Ho w0 w L) (qx:Ent L (rdA (dyC l0 H0) b (qj*3) (qq*3))) (a:AllD L l0 H0) (h:Au9 l0 c=some u0) (hK:∀ o,Ho w0 o L→K (.bool u0) o):Aa1 P N.Hp0 #[.slice b qj qq,.int .i64 c] w K:=by
 refine H.r16_Wide b qj qq c w _ ?_
 unfold Df7
 unfold Au9 at h
 try dsimp only
 obtain ⟨o1,p,c1⟩:=bnd h
 refine Aa9 (fun s w=>∃ (d:Int) (e:Int),(d,e)=o1∧s=(d,e,())∧Ho w0 w L) (fun J1 hJ1=>?_) ?_
 ·
  have h:=p
  refine Ab4 (fun s w t=>∃ (f:Int) (g:Int) (i:Int),(f,g,i)=t∧s=(f,g,i,())∧Ho w0 w L) ?_ h ⟨_,_,_,rfl,rfl,hS⟩
  clear h hS
  rintro s w t X q ⟨f,g,i,rfl,rfl,hS⟩ h hX hO
  unfold Ar2 at h
  try dsimp only
  obtain ⟨t6,ab,h⟩:=bnd h
  obtain rfl:=Eu8 ab a.len (qx.nw hS)
  refine Aa4 h ?_ ?_<;>intro hc h
  ·
   obtain ⟨o2,r,c2⟩:=bnd h
   refine Aa9 (fun s w=>∃ (j:Int) (k:Int),(j,k)=o2∧s=(j,k,())∧Ho w0 w L) (fun J2 hJ2=>?_) ?_
   ·
    have h:=r
    obtain ⟨t9,ac,h⟩:=bnd h
    obtain ⟨a0,l,m,vu,ad,ae⟩:=AllD.atE a ac
    refine Ah3 a.len (qx.nw hS) vu ad ?_;intro b4 n
    refine ⟨_,(Bq3 (qx.nw hS) n m l),?_⟩
    refine ⟨_,_,_,(Bm9 (qx.nw hS) n m l),?_⟩
    refine ⟨_,(Bj1 (qx.nw hS) n m l),?_⟩
    obtain ⟨a1,af,h⟩:=bnd h
    refine Am3 H hS ae af ?_;rintro w hS
    refine ⟨_,rfl,?_⟩
    refine Aa4 h ?_ ?_<;>intro hc h
    ·
     exact hJ2 _ _ ⟨_,_,Aa0 h,rfl,hS⟩
    obtain ⟨a2,ag,h⟩:=bnd h
    obtain ⟨a3,u,v,vw,ah,a4⟩:=AllD.atE a ag
    refine Ah3 a.len (qx.nw hS) vw ah ?_;intro b6 x
    refine ⟨_,(Bj1 (qx.nw hS) x v u),?_⟩
    obtain ⟨a5,ai,h⟩:=bnd h
    obtain ⟨a6,aj,ak,yd,al,am⟩:=AllD.atE a ai
    refine Ah3 a.len (qx.nw hS) yd al ?_;intro b8 an
    refine ⟨_,_,_,(Bm9 (qx.nw hS) an ak aj),?_⟩
    refine Aa7 hS ?_;intro w hS
    obtain ⟨a7,ao,h⟩:=bnd h
    refine Ea7 H hS am ao ?_;rintro w hS
    refine ⟨_,rfl,?_⟩
    refine ⟨Bj1 (qx.nw hS) x v u,?_⟩
    refine Aa7 hS ?_;intro w hS
    obtain ⟨a8,ap,h⟩:=bnd h
    obtain ⟨a9,y,z,yv,aq,ba⟩:=AllD.atE a ap
    refine Ah3 a.len (qx.nw hS) yv aq ?_;intro bb aa
    refine ⟨_,(Bj1 (qx.nw hS) aa z y),?_⟩
    obtain ⟨bc,ar,h⟩:=bnd h
    obtain ⟨be,au,av,vy,aw,ax⟩:=AllD.atE a ar
    refine Ah3 a.len (qx.nw hS) vy aw ?_;intro bf ay
    refine ⟨_,_,_,(Bm9 (qx.nw hS) ay av au),?_⟩
    refine Aa7 hS ?_;intro w hS
    obtain ⟨bh,az,h⟩:=bnd h
    refine Bg0 H hS ax az ?_;rintro w hS
    refine ⟨_,rfl,?_⟩
    refine ⟨Bj1 (qx.nw hS) aa z y,?_⟩
    refine Aa7 hS ?_;intro w hS
    exact hJ2 _ _ ⟨_,_,Aa0 h,rfl,hS⟩
   clear r hS
   rintro s w ⟨j,k,rfl,rfl,hS⟩
   have h:=c2
   try dsimp only
   obtain rfl:=Aa0 h
   exact hX _ rfl _ _ ⟨_,_,_,rfl,rfl,hS⟩
  obtain rfl:=Aa0 h
  have h:=congrArg some (hO _ rfl)
  exact hJ1 _ _ ⟨_,_,Aa0 h,rfl,hS⟩
 clear p hS
 rintro s w ⟨d,e,rfl,rfl,hS⟩
 have h:=c1
 try dsimp only
 refine Aa4 h ?_ ?_<;>intro hc h
 ·
  cases Aa0 h
  exact hK _ hS
 cases Aa0 h
 exact hK _ hS
theorem Da8 {b qj qq l0 c qu vf m u0} (hS:Ho w0 w L) (qx:EU L l0 b qj qq) (vg:EU L m c qu vf) (h:Av4 l0 m=some u0) (hK:∀ (a0:OA) (n o:Nat) (p:World),Ho w0 p ((sl a0 n o (List.map (AA .u64) u0) N.Hr2)::L)→K (.slice a0 n o) p):Aa1 P N.Hj0 #[.slice b qj qq,.slice c qu vf] w K:=by
 refine H.r02_product b qj qq c qu vf w _ ?_
 unfold Cb1
 unfold Av4 at h
 try dsimp only
 obtain ⟨t1,ac,h⟩:=bnd h
 obtain rfl:=Ai1 ac (qx.nw hS)
 obtain ⟨t2,ad,h⟩:=bnd h
 obtain rfl:=Ai1 ad (vg.nw hS)
 obtain ⟨t3,ae,h⟩:=bnd h
 obtain ⟨rfl,r⟩:=mkE ae
 refine Ew9 (enc:=(AA .u64)) hS r rfl ?_;clear hS r;intro a w hS
 obtain ⟨o2,u,c2⟩:=bnd h
 refine Aa9 (fun s w=>∃ (d:List Int),d=o2∧s=(())∧Ho w0 w ((sl (some ⟨a,0,none⟩) (((i64.wrap ((qj:Int)+(qu:Int)))).toNat) (((i64.wrap ((qj:Int)+(qu:Int)))).toNat) (List.map (AA .u64) d) N.Hr2)::L)) (fun J2 hJ2=>?_) ?_
 ·
  have h:=u
  refine Ab4 (fun s w t=>∃ (e:Int) (f:List Int),(e,f)=t∧s=(e,())∧Ho w0 w ((sl (some ⟨a,0,none⟩) (((i64.wrap ((qj:Int)+(qu:Int)))).toNat) (((i64.wrap ((qj:Int)+(qu:Int)))).toNat) (List.map (AA .u64) f) N.Hr2)::L)) ?_ h ⟨_,_,rfl,rfl,hS⟩
  clear h hS
  rintro s w t X q ⟨e,f,rfl,rfl,hS⟩ h hX hO
  unfold Aj5 at h
  try dsimp only
  obtain ⟨t7,af,h⟩:=bnd h
  obtain rfl:=Ai1 af ((qx.mono tl1).nw hS)
  refine Aa4 h ?_ ?_<;>intro hc h
  ·
   obtain ⟨o3,v,c3⟩:=bnd h
   refine Aa9 (fun s w=>∃ (g:Int) (i:List Int),(g,i)=o3∧s=(g,())∧Ho w0 w ((sl (some ⟨a,0,none⟩) (((i64.wrap ((qj:Int)+(qu:Int)))).toNat) (((i64.wrap ((qj:Int)+(qu:Int)))).toNat) (List.map (AA .u64) i) N.Hr2)::L)) (fun J3 hJ3=>?_) ?_
   ·
    have h:=v
    refine Ab4 (fun s w t=>∃ (j:Int) (k:Int) (l:List Int),(j,k,l)=t∧s=(j,k,())∧Ho w0 w ((sl (some ⟨a,0,none⟩) (((i64.wrap ((qj:Int)+(qu:Int)))).toNat) (((i64.wrap ((qj:Int)+(qu:Int)))).toNat) (List.map (AA .u64) l) N.Hr2)::L)) ?_ h ⟨_,_,_,rfl,rfl,hS⟩
    clear h hS
    rintro s w t X q ⟨j,k,l,rfl,rfl,hS⟩ h hX hO
    unfold Aj9 at h
    try dsimp only
    obtain ⟨a1,ag,h⟩:=bnd h
    obtain rfl:=Ai1 ag ((vg.mono tl1).nw hS)
    refine Aa4 h ?_ ?_<;>intro hc h
    ·
     obtain ⟨a2,ah,h⟩:=bnd h
     obtain ⟨x,vx,ai⟩:=atE ah
     refine Ad6 ((qx.mono tl1).nw hS) x vx ai ?_;intro b5 aj
     refine ⟨_,Ab8 ((qx.mono tl1).nw hS) aj x,?_⟩
     obtain ⟨a3,ak,h⟩:=bnd h
     obtain ⟨y,ya,al⟩:=atE ak
     refine Ad6 ((vg.mono tl1).nw hS) y ya al ?_;intro b7 am
     refine ⟨_,Ab8 ((vg.mono tl1).nw hS) am y,?_⟩
     obtain ⟨a4,an,h⟩:=bnd h
     obtain ⟨z,vz,ao⟩:=atE an
     refine Av1 ((Ent.sl mp0).nw hS) z vz ao ?_
     refine ⟨_,Ab8 ((Ent.sl mp0).nw hS) rfl z,?_⟩
     refine Aa7 hS ?_;intro w hS
     refine ⟨by decide,?_⟩
     obtain ⟨a5,ap,h⟩:=bnd h
     obtain ⟨aq,yb,aa⟩:=atE ap
     refine Av1 ((Ent.sl mp0).nw hS) aq yb aa ?_
     obtain ⟨a6,ar,h⟩:=bnd h
     obtain rfl:=Aa0 ar
     refine Aw7 hS rfl aa ?_;intro w hS
     refine ⟨by decide,?_⟩
     obtain rfl:=Aa0 h
     exact hX _ rfl _ _ ⟨_,_,_,rfl,rfl,hS⟩
    obtain rfl:=Aa0 h
    have h:=congrArg some (hO _ rfl)
    exact hJ3 _ _ ⟨_,_,Aa0 h,rfl,hS⟩
   clear v hS
   rintro s w ⟨g,i,rfl,rfl,hS⟩
   have h:=c3
   try dsimp only
   obtain ⟨a7,au,h⟩:=bnd h
   obtain rfl:=Ai1 au ((vg.mono tl1).nw hS)
   obtain ⟨a8,av,h⟩:=bnd h
   obtain ⟨aw,yh,ab⟩:=atE av
   refine Av1 ((Ent.sl mp0).nw hS) aw yh ab ?_
   obtain ⟨a9,ax,h⟩:=bnd h
   obtain rfl:=Aa0 ax
   refine Aw7 hS rfl ab ?_;intro w hS
   obtain rfl:=Aa0 h
   exact hX _ rfl _ _ ⟨_,_,rfl,rfl,hS⟩
  obtain rfl:=Aa0 h
  have h:=congrArg some (hO _ rfl)
  exact hJ2 _ _ ⟨_,Aa0 h,rfl,hS⟩
 clear u hS
 rintro s w ⟨d,rfl,rfl,hS⟩
 have h:=c2
 try dsimp only
 obtain ⟨ba,ay,h⟩:=bnd h
 refine Cf5 H hS (Ent.sl mp0) ay ?_;rintro w hS
 refine ⟨_,_,_,rfl,?_⟩
 obtain ⟨bb,az,h⟩:=bnd h
 obtain ⟨rfl,gr,gu,yg⟩:=Dm9 az
 have gw:=((Ent.sl mp0).nw hS).hiCap yg
 replace hS:=Ho.cut hS yg
 cases Aa0 h
 exact hK _ _ _ _ hS
theorem Dp0 {a qj qq l0 b qu vf c u0} (hS:Ho w0 w L) (qx:EU L l0 a qj qq) (vg:EU L c b qu vf) (h:Az8 l0 c=some u0) (hK:∀ (a0:OA) (d e:Nat) (f:World),Ho w0 f ((sl a0 d e (List.map (AA .u64) u0) N.Hr2)::L)→K (.slice a0 d e) f):Aa1 P N.Hl1 #[.slice a qj qq,.slice b qu vf] w K:=by
 refine H.r02_NatMul a qj qq b qu vf w _ ?_
 unfold Cj4
 unfold Az8 at h
 try dsimp only
 obtain ⟨l,g,h⟩:=bnd h
 refine Ak5 H hS qx g ?_;rintro m n o w hS
 refine ⟨_,_,_,rfl,?_⟩
 obtain ⟨p,i,h⟩:=bnd h
 refine Ak5 H hS (vg.mono tl1) i ?_;rintro q r s w hS
 refine ⟨_,_,_,rfl,?_⟩
 obtain ⟨t,j,h⟩:=bnd h
 refine Da8 H hS (Ent.sl mp1) (Ent.sl mp0) j ?_;rintro u v x w hS
 refine ⟨_,_,_,rfl,?_⟩
 obtain ⟨y,k,h⟩:=bnd h
 refine Az1 H hS (Ent.sl mp0) k ?_;rintro z m4 c4 w hS
 refine ⟨_,_,_,rfl,?_⟩
 cases Aa0 h
 exact hK _ _ _ _ (hS.pick (A:=[_,_,_,_]) [0] rfl)
theorem Bn9 {qd qb qe qg l0_1 qf qt qs qo qp l1_1 qw u0 u1 u2} (hS:Ho w0 w L) (qr:EU L l0_1 qb qe qg) (qy:EU L l1_1 qs qo qp) (h:Aq6 qd l0_1 qf qt l1_1 qw=some (u0,u1,u2)) (hK:∀ (a:OA) (b c:Nat) (d:World),Ho w0 d ((sl a b c (List.map (AA .u64) u1) N.Hr2)::L)→K (.agg #[.bool u0,.slice a b c,.int .i64 u2]) d):Aa1 P N.Hl7 #[.agg #[.bool qd,.slice qb qe qg,.int .i64 qf],.agg #[.bool qt,.slice qs qo qp,.int .i64 qw]] w K:=by
 refine H.r02_Times qd qb qe qg qf qt qs qo qp qw w _ ?_
 unfold Ct7
 unfold Aq6 at h
 try dsimp only
 refine Ab2 hS ?_;intro f w hS
 refine Ab2 hS ?_;intro g w hS
 refine Ab2 hS ?_;intro i w hS
 refine ⟨_,hS.cel mp2 rfl,_,hS.cel mp1 rfl,_,_,_,hS.cel mp2 rfl,_,_,_,hS.cel mp1 rfl,_,hS.cel mp2 rfl,_,hS.cel mp1 rfl,?_⟩
 refine Aa7 hS ?_;intro w hS
 obtain ⟨j,e,h⟩:=bnd h
 refine Dp0 H hS (qr.mono tl3) (qy.mono tl3) e ?_;rintro k l m w hS
 refine ⟨_,_,_,rfl,?_⟩
 refine ⟨(hS.cel mp2 rfl),?_⟩
 refine ⟨(hS.cel mp3 rfl),?_⟩
 refine ⟨(hS.cel mp2 rfl),?_⟩
 refine ⟨(hS.cel mp3 rfl),?_⟩
 refine Aa7 hS ?_;intro w hS
 replace hS:=ro1 hS
 refine Aa8 hS rfl rfl ?_;intro w hS
 refine Aa8 hS rfl rfl ?_;intro w hS
 refine Aa8 hS rfl rfl ?_;intro w hS
 refine Aa7 hS ?_;intro w hS
 refine ⟨_,hS.cel mp0 rfl,_,_,_,hS.cel mp0 rfl,_,hS.cel mp0 rfl,?_⟩
 cases Aa0 h
 exact hK _ _ _ _ (hS.pick (A:=[_,_,_,_]) [1] rfl)
theorem At4 {B:List It} {q0 qj qq} {H0:List Hd} {l0:List Dy} {q1} {u0:List Dy} (hS:Ho w0 w L) (hB:∀ e,e∈B→e∈L) (qx:Ent L (rdA (dyC l0 H0) q0 (qj*3) (qq*3))) (a6:AllD B l0 H0) (h:Ae8 l0 q1=some u0) (hK:∀ (a0:OA) (n0 c0:Nat) (fj:List Hd) (fk:It) (w1:World),(AllD (fk::B) u0 fj)→Ho w0 w1 ((sl a0 (n0*3) (c0*3) (dyC u0 fj) N.Hp2)::fk::L)→K (.slice a0 n0 c0) w1):Aa1 P N.Hg7 #[.slice q0 qj qq,.int .i64 q1] w K:=by
 refine H.r16_Coefficients q0 qj qq q1 w _ ?_
 unfold Bf6
 unfold Ae8 at h
 try dsimp only
 replace hS:=hS.voidItem
 obtain ⟨⟨t1,t2,t3⟩,fl,h⟩:=bnd h
 refine Am7 H hS  fl ?_;clear hS fl;rintro a1 m1 c1 w hS
 refine ⟨_,_,_,_,_,rfl,?_⟩
 replace hS:=ro1 hS
 replace hS:=ro1 hS
 have dq:Ent ((sl a1 m1 c1 (List.map (AA .u64) t2) N.Hr2)::vd::B) (rdA (List.map (AA .u64) t2) a1 m1 c1):=(Ent.sl mp0)
 replace hS:=hS.both
 replace dq:=dq.both
 obtain ⟨t4,gw,h⟩:=bnd h
 obtain rfl:([(t1,t2,t3)]:List Dy)=t4:=Aa0 gw
 have gx:AllD ((both (sl a1 m1 c1 (List.map (AA .u64) t2) N.Hr2) vd)::B) ([(t1,t2,t3)]:List Dy) ([(a1,m1,c1)]:List Hd):=(.cons dq .nil)
 refine Bm3 (X:=([(t1,t2,t3)]:List Dy)) (H:=([(a1,m1,c1)]:List Hd)) (m:=1) hS rfl rfl rfl ?_;intro r3 w hS
 obtain ⟨g0,fm,g1⟩:=bnd h
 refine Aa9 (fun s w=>∃ (a5:OA) (m6:Nat) (c7:Nat) (t5:List Dy) (dr:List Hd) (ds:It),t5=g0∧s=((a5,m6,c7),())∧AllD (ds::B) t5 dr∧Ho w0 w ((sl a5 (m6*3) (c7*3) (dyC t5 dr) N.Hp2)::ds::L)) (fun jz hJ11=>?_) ?_
 ·
  have h:=fm
  refine Ab4 (fun s w t=>∃ (a:Int) (ac:It) (f:OA) (i:Nat) (j:Nat) (c:List Dy) (d:List Hd),(a,c)=t∧s=((f,i,j),a,())∧AllD (ac::B) c d∧Ho w0 w ((sl f (i*3) (j*3) (dyC c d) N.Hp2)::ac::L)) ?_ h ⟨_,_,_,_,_,_,_,rfl,rfl,gx,hS⟩
  clear h hS
  rintro s w t X q ⟨a,ac,f,i,j,c,d,rfl,rfl,b5,hS⟩ h hX hO
  unfold Ae0 at h
  try dsimp only
  refine Aa4 h ?_ ?_<;>intro hc h
  ·
   obtain ⟨t8,g2,h⟩:=bnd h
   obtain ⟨l,b6,b7,gy,g3,fn⟩:=AllD.atE a6 g2
   refine Ah3 a6.len ((qx.mono tl2).nw hS) gy g3 ?_;intro j0 b8
   refine ⟨_,(Bq3 ((qx.mono tl2).nw hS) b8 b7 b6),?_⟩
   refine ⟨_,_,_,(Bm9 ((qx.mono tl2).nw hS) b8 b7 b6),?_⟩
   refine ⟨_,(Bj1 ((qx.mono tl2).nw hS) b8 b7 b6),?_⟩
   refine Aa7 hS ?_;intro w hS
   obtain ⟨⟨t9,k,ck⟩,fo,h⟩:=bnd h
   refine Am7 H hS  fo ?_;clear hS fo;rintro n o p w hS
   refine ⟨_,_,_,_,_,rfl,?_⟩
   refine ⟨Bq3 ((qx.mono tl3).nw hS) b8 b7 b6,?_⟩
   refine ⟨Bm9 ((qx.mono tl3).nw hS) b8 b7 b6,?_⟩
   refine ⟨Bj1 ((qx.mono tl3).nw hS) b8 b7 b6,?_⟩
   refine Aa7 hS ?_;intro w hS
   obtain ⟨⟨cm,j1,cn⟩,fp,h⟩:=bnd h
   refine Bf1 H hS (fn.mono (fun e he=>tl3 e (hB e he))) fp ?_;clear hS fp;rintro w rfl hS
   refine ⟨_,_,_,_,_,rfl,?_⟩
   refine Aa7 hS ?_;intro w hS
   replace hS:=ro2 hS
   replace hS:=ro1 hS
   have dt:Ent ((sl n o p (List.map (AA .u64) k) N.Hr2)::ac::B) (rdA (List.map (AA .u64) k) n o p):=(Ent.sl mp0)
   replace b5:=b5.mono (L':=(sl n o p (List.map (AA .u64) k) N.Hr2)::ac::B) (Aa5 mp1 tl2)
   replace hS:=hS.both
   replace dt:=dt.both
   replace b5:=b5.both
   have g4:Ent ((both (sl n o p (List.map (AA .u64) k) N.Hr2) ac)::B) (rdA (List.map (AA .u64) t8.2.1) l.1 l.2.1 l.2.2):=(fn.mono tl1)
   obtain ⟨g5,g6,h⟩:=bnd h
   obtain rfl:([(t9,k,ck),(cm,t8.2.1,cn)]:List Dy)=g5:=Aa0 g6
   have g7:AllD ((both (sl n o p (List.map (AA .u64) k) N.Hr2) ac)::B) ([(t9,k,ck),(cm,t8.2.1,cn)]:List Dy) ([(n,o,p),(l.1,l.2.1,l.2.2)]:List Hd):=(.cons dt (.cons g4 .nil))
   refine Bm3 (X:=([(t9,k,ck),(cm,t8.2.1,cn)]:List Dy)) (H:=([(n,o,p),(l.1,l.2.1,l.2.2)]:List Hd)) (m:=2) hS rfl rfl rfl ?_;intro fq w hS
   refine Aa7 hS ?_;intro w hS
   obtain ⟨j2,g8,h⟩:=bnd h
   obtain ⟨rfl,fr⟩:=mkE g8
   have g9:=AllD.repl (L:=((both (sl n o p (List.map (AA .u64) k) N.Hr2) ac)::B)) (b:=false) (e:=0) (a).toNat
   refine Fq1 hS fr rfl ?_;clear hS fr;intro fs w hS
   obtain ⟨ha,ft,hb⟩:=bnd h
   refine Aa9 (fun s w=>∃ (c6:List Dy) (du:List Hd),c6=ha∧s=(())∧AllD ((both (sl n o p (List.map (AA .u64) k) N.Hr2) ac)::B) c6 du∧Ho w0 w ((sl (some ⟨fs,0,none⟩) (((a).toNat)*3) (((a).toNat)*3) (dyC c6 du) N.Hp2)::(sl (some ⟨fq,0,none⟩) (2*3) (2*3) (dyC ([(t9,k,ck),(cm,t8.2.1,cn)]:List Dy) ([(n,o,p),(l.1,l.2.1,l.2.2)]:List Hd)) N.Hp2)::(sl f (i*3) (j*3) (dyC c d) N.Hp2)::(both (sl n o p (List.map (AA .u64) k) N.Hr2) ac)::L)) (fun j3 hJ30=>?_) ?_
   ·
    have h:=ft
    refine Ab4 (fun s w t=>∃ (c8:Int) (c9:List Dy) (dw:List Hd),(c8,c9)=t∧s=(c8,())∧AllD ((both (sl n o p (List.map (AA .u64) k) N.Hr2) ac)::B) c9 dw∧Ho w0 w ((sl (some ⟨fs,0,none⟩) (((a).toNat)*3) (((a).toNat)*3) (dyC c9 dw) N.Hp2)::(sl (some ⟨fq,0,none⟩) (2*3) (2*3) (dyC ([(t9,k,ck),(cm,t8.2.1,cn)]:List Dy) ([(n,o,p),(l.1,l.2.1,l.2.2)]:List Hd)) N.Hp2)::(sl f (i*3) (j*3) (dyC c d) N.Hp2)::(both (sl n o p (List.map (AA .u64) k) N.Hr2) ac)::L)) ?_ h ⟨_,_,_,rfl,rfl,g9,(hS.pick (A:=[_,_,_,_]) [0,0,1,0] rfl)⟩
    clear h hS
    rintro s w t X q ⟨c8,c9,dw,rfl,rfl,co,hS⟩ h hX hO
    unfold Ae5 at h
    try dsimp only
    refine Aa4 h ?_ ?_<;>intro hc h
    ·
     obtain ⟨bv,hd,h⟩:=bnd h
     obtain ⟨au,dx,dy,yp,hf,hg⟩:=AllD.atE a6 hd
     refine Ah3 a6.len ((qx.mono tl4).nw hS) yp hf ?_;intro j4 d0
     refine ⟨_,(Bq3 ((qx.mono tl4).nw hS) d0 dy dx),?_⟩
     refine ⟨_,_,_,(Bm9 ((qx.mono tl4).nw hS) d0 dy dx),?_⟩
     refine ⟨_,(Bj1 ((qx.mono tl4).nw hS) d0 dy dx),?_⟩
     obtain ⟨j5,hh,h⟩:=bnd h
     obtain ⟨j6,j7,j8,yq,fu,j9⟩:=AllD.atE co hh
     refine Cz2 co.len ((Ent.sl mp0).nw hS) yq fu ?_
     replace hS:=ro3 hS
     have hi:Ent ((both (sl n o p (List.map (AA .u64) k) N.Hr2) ac)::B) (rdA (List.map (AA .u64) bv.2.1) au.1 au.2.1 au.2.2):=(hg.mono tl1)
     replace hS:=ro1 hS
     obtain ⟨ka,hj,h⟩:=bnd h
     obtain rfl:=Aa0 hj
     have hk:=co.set (x:=(bv.1,bv.2.1,bv.2.2)) (g:=(au.1,au.2.1,au.2.2)) hi (c8).toNat
     refine Cw1 (x:=(bv.1,bv.2.1,bv.2.2)) (g:=(au.1,au.2.1,au.2.2)) hS co.len rfl fu ?_;intro w hS
     obtain rfl:=Aa0 h
     exact hX _ rfl _ _ ⟨_,_,_,rfl,rfl,hk,(hS.pick (A:=[_,_,_,_]) [0,1,1,0] rfl)⟩
    obtain rfl:=Aa0 h
    have h:=congrArg some (hO _ rfl)
    obtain rfl:=Aa0 h
    exact hJ30 _ _ ⟨_,_,rfl,rfl,co,hS⟩
   clear ft hS
   rintro s w ⟨c6,du,rfl,rfl,hl,hS⟩
   have h:=hb
   try dsimp only
   obtain ⟨hm,fv,hn⟩:=bnd h
   refine Aa9 (fun s w=>∃ (bw:OA) (bx:Nat) (bz:Nat) (aj:List Dy) (ao:List Hd) (cp:It),aj=hm∧s=((bw,bx,bz),())∧AllD (cp::B) c d∧AllD (cp::B) aj ao∧Ho w0 w ((sl f (i*3) (j*3) (dyC c d) N.Hp2)::(sl bw (bx*3) (bz*3) (dyC aj ao) N.Hp2)::cp::L)) (fun kb hJ46=>?_) ?_
   ·
    have h:=fv
    refine Ab4 (fun s w t=>∃ (d1:Int) (ad:It) (cq:OA) (av:Nat) (cr:Nat) (u:List Dy) (ae:List Hd) (a7:OA) (a8:Nat) (a9:Nat) (ah:List Dy) (ak:List Hd),(d1,u,ah)=t∧s=((cq,av,cr),(a7,a8,a9),d1,())∧AllD (ad::B) c d∧AllD (ad::B) u ae∧AllD (ad::B) ah ak∧Ho w0 w ((sl f (i*3) (j*3) (dyC c d) N.Hp2)::(sl cq (av*3) (cr*3) (dyC u ae) N.Hp2)::(sl a7 (a8*3) (a9*3) (dyC ah ak) N.Hp2)::ad::L)) ?_ h ⟨_,_,_,_,_,_,_,_,_,_,_,_,rfl,rfl,b5,g7,hl,(hS.pick (A:=[_,_,_,_]) [2,1,0,0] rfl)⟩
    clear h hS
    rintro s w t X q ⟨d1,ad,cq,av,cr,u,ae,a7,a8,a9,ah,ak,rfl,rfl,b9,b0,b1,hS⟩ h hX hO
    unfold Ad9 at h
    try dsimp only
    refine Aa4 h ?_ ?_<;>intro hc h
    ·
     obtain ⟨⟨kc,kd,ke⟩,fw,h⟩:=bnd h
     refine Am7 H hS  fw ?_;clear hS fw;rintro kf kg kh w hS
     refine ⟨_,_,_,_,_,rfl,?_⟩
     refine Ab2 hS ?_;intro fx w hS
     refine Aa8 hS rfl rfl ?_;intro w hS
     refine Aa8 hS rfl rfl ?_;intro w hS
     refine Aa8 hS rfl rfl ?_;intro w hS
     obtain ⟨ho,fy,hp⟩:=bnd h
     refine Aa9 (fun s w=>∃ (d2:Bool) (d3:Int) (v:OA) (y:Nat) (z:Nat) (r:List Int) (aw:It),(d2,d3,r)=ho∧s=(())∧Ent (aw::B) (rdA (List.map (AA .u64) r) v y z)∧Ho w0 w ((cl fx [.bool d2,.slice v y z,.int .i64 d3] N.Hp2)::(sl f (i*3) (j*3) (dyC c d) N.Hp2)::(sl cq (av*3) (cr*3) (dyC u ae) N.Hp2)::(sl a7 (a8*3) (a9*3) (dyC ah ak) N.Hp2)::ad::aw::L)) (fun ki hJ66=>?_) ?_
     ·
      have h:=fy
      refine Ab4 (fun s w t=>∃ (d4:Int) (d5:Bool) (d6:Int) (d7:OA) (d8:Nat) (d9:Nat) (ea:List Int) (eb:It),(d4,d5,d6,ea)=t∧s=(d4,())∧Ent (eb::B) (rdA (List.map (AA .u64) ea) d7 d8 d9)∧Ho w0 w ((cl fx [.bool d5,.slice d7 d8 d9,.int .i64 d6] N.Hp2)::(sl f (i*3) (j*3) (dyC c d) N.Hp2)::(sl cq (av*3) (cr*3) (dyC u ae) N.Hp2)::(sl a7 (a8*3) (a9*3) (dyC ah ak) N.Hp2)::ad::eb::L)) ?_ h ⟨_,_,_,_,_,_,_,_,rfl,rfl,(Ent.sl mp0),(hS.pick (A:=[_,_,_,_,_,_]) [0,1,1,1,1,0] rfl)⟩
      clear h hS
      rintro s w t X q ⟨d4,d5,d6,d7,d8,d9,ea,eb,rfl,rfl,ec,hS⟩ h hX hO
      unfold Ae3 at h
      try dsimp only
      refine Aa4 h ?_ ?_<;>intro hc h
      ·
       refine ⟨_,hS.cel mp0 rfl,_,_,_,hS.cel mp0 rfl,_,hS.cel mp0 rfl,?_⟩
       obtain ⟨kj,hq,h⟩:=bnd h
       obtain ⟨kk,ed,ee,gz,hr,hs⟩:=AllD.atE a6 hq
       refine Ah3 a6.len ((qx.mono tl6).nw hS) gz hr ?_;intro kl ef
       refine ⟨_,(Bq3 ((qx.mono tl6).nw hS) ef ee ed),?_⟩
       refine ⟨_,_,_,(Bm9 ((qx.mono tl6).nw hS) ef ee ed),?_⟩
       refine ⟨_,(Bj1 ((qx.mono tl6).nw hS) ef ee ed),?_⟩
       obtain ⟨km,ht,h⟩:=bnd h
       obtain ⟨kn,eg,eh,za,hu,hv⟩:=AllD.atE b1 ht
       refine Ah3 b1.len ((Ent.sl mp3).nw hS) za hu ?_;intro ko ei
       refine ⟨_,(Bq3 ((Ent.sl mp3).nw hS) ei eh eg),?_⟩
       refine ⟨_,_,_,(Bm9 ((Ent.sl mp3).nw hS) ei eh eg),?_⟩
       refine ⟨_,(Bj1 ((Ent.sl mp3).nw hS) ei eh eg),?_⟩
       refine Aa7 hS ?_;intro w hS
       obtain ⟨⟨kp,kq,kr⟩,f0,h⟩:=bnd h
       refine Bn9 H hS (hs.mono (fun e he=>tl6 e (hB e he))) (hv.mono (Aa5 mp4 (fun e he=>tl6 e (hB e he)))) f0 ?_;clear hS f0;rintro ks kt ku w hS
       refine ⟨_,_,_,_,_,rfl,?_⟩
       refine ⟨(hS.cel mp1 rfl),?_⟩
       refine ⟨(hS.cel mp1 rfl),?_⟩
       refine ⟨(hS.cel mp1 rfl),?_⟩
       refine Aa7 hS ?_;intro w hS
       obtain ⟨⟨kv,kw,kx⟩,f1,h⟩:=bnd h
       refine Bd2 H hS (ec.mono (Aa5 mp6 (fun e he=>tl7 e (hB e he)))) (Ent.sl mp0) f1 ?_;clear hS f1;rintro ky kz k0 k1 w hw hS
       refine ⟨_,_,_,_,_,rfl,?_⟩
       refine Aa7 hS ?_;intro w hS
       replace hS:=ro2 hS
       refine Aa8 hS rfl rfl ?_;intro w hS
       refine Aa8 hS rfl rfl ?_;intro w hS
       refine Aa8 hS rfl rfl ?_;intro w hS
       refine Aa7 hS ?_;intro w hS
       replace hS:=ro2 hS
       replace hS:=ro7 hS
       replace hS:=ro3 hS
       replace hS:=hS.both
       replace hS:=hS.both
       obtain rfl:=Aa0 h
       exact hX _ rfl _ _ ⟨_,_,_,_,_,_,_,_,rfl,rfl,(hw _ mp0 (ec.mono (Aa5 mp1 tl3)) (Ent.sl mp2)).both.both,(hS.pick (A:=[_,_,_,_,_,_]) [1,1,1,1,1,0] rfl)⟩
      obtain rfl:=Aa0 h
      have h:=congrArg some (hO _ rfl)
      obtain rfl:=Aa0 h
      exact hJ66 _ _ ⟨_,_,_,_,_,_,_,rfl,rfl,ec,hS⟩
     clear fy hS
     rintro s w ⟨d2,d3,v,y,z,r,aw,rfl,rfl,f2,hS⟩
     have h:=hp
     try dsimp only
     refine ⟨_,hS.cel mp0 rfl,_,_,_,hS.cel mp0 rfl,_,hS.cel mp0 rfl,?_⟩
     obtain ⟨⟨al,k2,am⟩,f3,h⟩:=bnd h
     refine Bf1 H hS (f2.mono (Aa5 mp5 (fun e he=>tl6 e (hB e he)))) f3 ?_;clear hS f3;rintro w rfl hS
     refine ⟨_,_,_,_,_,rfl,?_⟩
     replace hS:=ro4 hS
     replace hS:=ro5 hS
     have ej:Ent (aw::ad::B) (rdA (List.map (AA .u64) r) v y z):=(f2.mono (Aa5 mp0 tl2))
     replace b9:=b9.mono (L':=aw::ad::B) (Aa5 mp1 tl2)
     replace b0:=b0.mono (L':=aw::ad::B) (Aa5 mp1 tl2)
     replace b1:=b1.mono (L':=aw::ad::B) (Aa5 mp1 tl2)
     replace hS:=hS.both
     replace ej:=ej.both
     replace b9:=b9.both
     replace b0:=b0.both
     replace b1:=b1.both
     obtain ⟨hx,hy,h⟩:=bnd h
     obtain rfl:([(al,r,am)]:List Dy)=hx:=Aa0 hy
     have f4:AllD ((both aw ad)::B) ([(al,r,am)]:List Dy) ([(v,y,z)]:List Hd):=(.cons ej .nil)
     refine Bm3 (X:=([(al,r,am)]:List Dy)) (H:=([(v,y,z)]:List Hd)) (m:=1) hS rfl rfl rfl ?_;intro k3 w hS
     obtain ⟨k4,hz,h⟩:=bnd h
     obtain ⟨rfl,f5⟩:=Eq9 hz
     replace hS:=ro4 hS
     have h0:=b0.append f4
     refine Bu3 hS f5 b0.len f4.len ((Ent.sl mp1).nw hS) rfl rfl ?_;clear hS f5;intro da db w hS
     obtain ⟨k5,h1,h⟩:=bnd h
     obtain ⟨rfl,f6⟩:=mkE h1
     have h2:=AllD.repl (L:=((both aw ad)::B)) (b:=false) (e:=0) (a).toNat
     refine Fq1 hS f6 rfl ?_;clear hS f6;intro dc w hS
     obtain ⟨h3,f7,h4⟩:=bnd h
     refine Aa9 (fun s w=>∃ (dd:List Dy) (ek:List Hd) (cs:It),dd=h3∧s=(())∧AllD (cs::B) dd ek∧AllD (cs::B) (u++([(al,r,am)]:List Dy)) (ae++([(v,y,z)]:List Hd))∧AllD (cs::B) c d∧Ho w0 w ((sl (some ⟨dc,0,none⟩) (((a).toNat)*3) (((a).toNat)*3) (dyC dd ek) N.Hp2)::(sl da ((av+1)*3) (db*3) (dyC (u++([(al,r,am)]:List Dy)) (ae++([(v,y,z)]:List Hd))) N.Hp2)::(sl f (i*3) (j*3) (dyC c d) N.Hp2)::cs::L)) (fun k6 hJ90=>?_) ?_
     ·
      have h:=f7
      refine Ab4 (fun s w t=>∃ (ct:Int) (de:List Dy) (el:List Hd) (ai:It),(ct,de)=t∧s=(ct,())∧AllD (ai::B) de el∧AllD (ai::B) (u++([(al,r,am)]:List Dy)) (ae++([(v,y,z)]:List Hd))∧AllD (ai::B) c d∧AllD (ai::B) ah ak∧Ho w0 w ((sl (some ⟨dc,0,none⟩) (((a).toNat)*3) (((a).toNat)*3) (dyC de el) N.Hp2)::(sl da ((av+1)*3) (db*3) (dyC (u++([(al,r,am)]:List Dy)) (ae++([(v,y,z)]:List Hd))) N.Hp2)::(sl f (i*3) (j*3) (dyC c d) N.Hp2)::(sl a7 (a8*3) (a9*3) (dyC ah ak) N.Hp2)::ai::L)) ?_ h ⟨_,_,_,_,rfl,rfl,h2,h0,b9,b1,(hS.pick (A:=[_,_,_,_,_,_,_]) [0,0,3,3,1] rfl)⟩
      clear h hS
      rintro s w t X q ⟨ct,de,el,ai,rfl,rfl,ax,ca,cb,cu,hS⟩ h hX hO
      unfold Ae6 at h
      try dsimp only
      refine Aa4 h ?_ ?_<;>intro hc h
      ·
       obtain ⟨⟨f8,ay,f9⟩,ga,h⟩:=bnd h
       refine Am7 H hS  ga ?_;clear hS ga;rintro az a2 a3 w hS
       refine ⟨_,_,_,_,_,rfl,?_⟩
       obtain ⟨k7,h5,h⟩:=bnd h
       obtain ⟨k8,k9,la,zb,gb,df⟩:=AllD.atE ax h5
       refine Cz2 ax.len ((Ent.sl mp1).nw hS) zb gb ?_
       replace hS:=ro5 hS
       replace hS:=ro1 hS
       have em:Ent ((sl az a2 a3 (List.map (AA .u64) ay) N.Hr2)::ai::B) (rdA (List.map (AA .u64) ay) az a2 a3):=(Ent.sl mp0)
       replace ax:=ax.mono (L':=(sl az a2 a3 (List.map (AA .u64) ay) N.Hr2)::ai::B) (Aa5 mp1 tl2)
       replace ca:=ca.mono (L':=(sl az a2 a3 (List.map (AA .u64) ay) N.Hr2)::ai::B) (Aa5 mp1 tl2)
       replace cb:=cb.mono (L':=(sl az a2 a3 (List.map (AA .u64) ay) N.Hr2)::ai::B) (Aa5 mp1 tl2)
       replace cu:=cu.mono (L':=(sl az a2 a3 (List.map (AA .u64) ay) N.Hr2)::ai::B) (Aa5 mp1 tl2)
       replace df:Ent ((sl az a2 a3 (List.map (AA .u64) ay) N.Hr2)::ai::B) _:=df.mono (Aa5 mp1 tl2)
       replace hS:=hS.both
       replace em:=em.both
       replace ax:=ax.both
       replace ca:=ca.both
       replace cb:=cb.both
       replace cu:=cu.both
       replace df:=df.both
       replace hS:=ro1 hS
       obtain ⟨lb,h6,h⟩:=bnd h
       obtain rfl:=Aa0 h6
       have h7:=ax.set (x:=(f8,ay,f9)) (g:=(az,a2,a3)) em (ct).toNat
       refine Cw1 (x:=(f8,ay,f9)) (g:=(az,a2,a3)) hS ax.len rfl gb ?_;intro w hS
       obtain ⟨h8,gc,h9⟩:=bnd h
       refine Aa9 (fun s w=>∃ (dh:List Dy) (en:List Hd) (cc:It),dh=h8∧s=(())∧AllD (cc::B) dh en∧AllD (cc::B) (u++([(al,r,am)]:List Dy)) (ae++([(v,y,z)]:List Hd))∧AllD (cc::B) c d∧AllD (cc::B) ah ak∧Ho w0 w ((sl (some ⟨dc,0,none⟩) (((a).toNat)*3) (((a).toNat)*3) (dyC dh en) N.Hp2)::(sl da ((av+1)*3) (db*3) (dyC (u++([(al,r,am)]:List Dy)) (ae++([(v,y,z)]:List Hd))) N.Hp2)::(sl f (i*3) (j*3) (dyC c d) N.Hp2)::(sl a7 (a8*3) (a9*3) (dyC ah ak) N.Hp2)::cc::L)) (fun le hJ108=>?_) ?_
       ·
        have h:=gc
        refine Ab4 (fun s w t=>∃ (eo:Int) (di:List Dy) (ep:List Hd) (aa:It),(eo,di)=t∧s=(eo,())∧AllD (aa::B) di ep∧AllD (aa::B) (u++([(al,r,am)]:List Dy)) (ae++([(v,y,z)]:List Hd))∧AllD (aa::B) c d∧AllD (aa::B) ah ak∧Ho w0 w ((sl (some ⟨dc,0,none⟩) (((a).toNat)*3) (((a).toNat)*3) (dyC di ep) N.Hp2)::(sl da ((av+1)*3) (db*3) (dyC (u++([(al,r,am)]:List Dy)) (ae++([(v,y,z)]:List Hd))) N.Hp2)::(sl f (i*3) (j*3) (dyC c d) N.Hp2)::(sl a7 (a8*3) (a9*3) (dyC ah ak) N.Hp2)::aa::L)) ?_ h ⟨_,_,_,_,rfl,rfl,h7,ca,cb,cu,(hS.pick (A:=[_,_,_,_,_]) [0,1,1,1,0] rfl)⟩
        clear h hS
        rintro s w t X q ⟨eo,di,ep,aa,rfl,rfl,af,ba,bb,ap,hS⟩ h hX hO
        unfold Ae4 at h
        try dsimp only
        refine Aa4 h ?_ ?_<;>intro hc h
        ·
         obtain ⟨lf,ia,h⟩:=bnd h
         obtain ⟨lg,cd,ce,jc,ib,bc⟩:=AllD.atE af ia
         refine Cz2 af.len ((Ent.sl mp0).nw hS) jc ib ?_
         refine ⟨_,(Bq3 ((Ent.sl mp0).nw hS) rfl ce cd),?_⟩
         refine ⟨_,_,_,(Bm9 ((Ent.sl mp0).nw hS) rfl ce cd),?_⟩
         refine ⟨_,(Bj1 ((Ent.sl mp0).nw hS) rfl ce cd),?_⟩
         obtain ⟨lh,ic,h⟩:=bnd h
         obtain ⟨li,eq,er,jd,id,ie⟩:=AllD.atE a6 ic
         refine Ah3 a6.len ((qx.mono tl5).nw hS) jd id ?_;intro lj es
         refine ⟨_,(Bq3 ((qx.mono tl5).nw hS) es er eq),?_⟩
         refine ⟨_,_,_,(Bm9 ((qx.mono tl5).nw hS) es er eq),?_⟩
         refine ⟨_,(Bj1 ((qx.mono tl5).nw hS) es er eq),?_⟩
         obtain ⟨lk,ig,h⟩:=bnd h
         obtain ⟨ll,et,eu,je,ih,b2⟩:=AllD.atE ap ig
         refine Ah3 ap.len ((Ent.sl mp3).nw hS) je ih ?_;intro lm ew
         refine ⟨_,(Bq3 ((Ent.sl mp3).nw hS) ew eu et),?_⟩
         refine ⟨_,_,_,(Bm9 ((Ent.sl mp3).nw hS) ew eu et),?_⟩
         refine ⟨_,(Bj1 ((Ent.sl mp3).nw hS) ew eu et),?_⟩
         refine Aa7 hS ?_;intro w hS
         obtain ⟨⟨ln,be,lo⟩,gd,h⟩:=bnd h
         refine Bn9 H hS (ie.mono (fun e he=>tl5 e (hB e he))) (b2.mono (Aa5 mp4 (fun e he=>tl5 e (hB e he)))) gd ?_;clear hS gd;rintro bf bh bi w hS
         refine ⟨_,_,_,_,_,rfl,?_⟩
         refine ⟨Bq3 ((Ent.sl mp1).nw hS) rfl ce cd,?_⟩
         refine ⟨Bm9 ((Ent.sl mp1).nw hS) rfl ce cd,?_⟩
         refine ⟨Bj1 ((Ent.sl mp1).nw hS) rfl ce cd,?_⟩
         refine Aa7 hS ?_;intro w hS
         obtain ⟨⟨ge,ey,gf⟩,gh,h⟩:=bnd h
         refine Bd2 H hS (bc.mono (Aa5 mp5 (fun e he=>tl6 e (hB e he)))) (Ent.sl mp0) gh ?_;clear hS gh;rintro bj ez e0 e1 w ii hS
         refine ⟨_,_,_,_,_,rfl,?_⟩
         obtain ⟨lq,ij,h⟩:=bnd h
         obtain ⟨lr,ls,lu,jf,gi,cf⟩:=AllD.atE af ij
         refine Cz2 af.len ((Ent.sl mp2).nw hS) jf gi ?_
         refine Aa7 hS ?_;intro w hS
         replace hS:=ro6 hS
         replace hS:=ro2 hS
         replace hS:=ro2 hS
         have cw:Ent (bj::(sl bf bh bi (List.map (AA .u64) be) N.Hr2)::aa::B) (rdA (List.map (AA .u64) ey) ez e0 e1):=(ii _ mp0 (bc.mono (Aa5 mp2 tl3)) (Ent.sl mp1))
         replace af:=af.mono (L':=bj::(sl bf bh bi (List.map (AA .u64) be) N.Hr2)::aa::B) (Aa5 mp2 tl3)
         replace ba:=ba.mono (L':=bj::(sl bf bh bi (List.map (AA .u64) be) N.Hr2)::aa::B) (Aa5 mp2 tl3)
         replace bb:=bb.mono (L':=bj::(sl bf bh bi (List.map (AA .u64) be) N.Hr2)::aa::B) (Aa5 mp2 tl3)
         replace ap:=ap.mono (L':=bj::(sl bf bh bi (List.map (AA .u64) be) N.Hr2)::aa::B) (Aa5 mp2 tl3)
         replace bc:Ent (bj::(sl bf bh bi (List.map (AA .u64) be) N.Hr2)::aa::B) _:=bc.mono (Aa5 mp2 tl3)
         replace b2:Ent (bj::(sl bf bh bi (List.map (AA .u64) be) N.Hr2)::aa::B) _:=b2.mono (Aa5 mp2 tl3)
         replace cf:Ent (bj::(sl bf bh bi (List.map (AA .u64) be) N.Hr2)::aa::B) _:=cf.mono (Aa5 mp2 tl3)
         replace hS:=hS.both
         replace cw:=cw.both
         replace af:=af.both
         replace ba:=ba.both
         replace bb:=bb.both
         replace ap:=ap.both
         replace bc:=bc.both
         replace b2:=b2.both
         replace cf:=cf.both
         replace hS:=hS.both
         replace cw:=cw.both
         replace af:=af.both
         replace ba:=ba.both
         replace bb:=bb.both
         replace ap:=ap.both
         replace bc:=bc.both
         replace b2:=b2.both
         replace cf:=cf.both
         replace hS:=ro1 hS
         obtain ⟨lw,ik,h⟩:=bnd h
         obtain rfl:=Aa0 ik
         have il:=af.set (x:=(ge,ey,gf)) (g:=(ez,e0,e1)) cw (ct).toNat
         refine Cw1 (x:=(ge,ey,gf)) (g:=(ez,e0,e1)) hS af.len rfl gi ?_;intro w hS
         refine Aa7 hS ?_;intro w hS
         obtain rfl:=Aa0 h
         exact hX _ rfl _ _ ⟨_,_,_,_,rfl,rfl,il,ba,bb,ap,(hS.pick (A:=[_,_,_,_,_]) [0,1,1,1,0] rfl)⟩
        obtain rfl:=Aa0 h
        have h:=congrArg some (hO _ rfl)
        obtain rfl:=Aa0 h
        exact hJ108 _ _ ⟨_,_,_,rfl,rfl,af,ba,bb,ap,hS⟩
       clear gc hS
       rintro s w ⟨dh,en,cc,rfl,rfl,im,io,ip,iq,hS⟩
       have h:=h9
       try dsimp only
       obtain rfl:=Aa0 h
       exact hX _ rfl _ _ ⟨_,_,_,_,rfl,rfl,im,io,ip,iq,hS⟩
      obtain rfl:=Aa0 h
      have h:=congrArg some (hO _ rfl)
      obtain rfl:=Aa0 h
      exact hJ90 _ _ ⟨_,_,_,rfl,rfl,ax,ca,cb,(hS.pick (A:=[_,_,_,_,_]) [0,0,0,1] rfl)⟩
     clear f7 hS
     rintro s w ⟨dd,ek,cs,rfl,rfl,it,iu,iv,hS⟩
     have h:=h4
     try dsimp only
     obtain rfl:=Aa0 h
     exact hX _ rfl _ _ ⟨_,_,_,_,_,_,_,_,_,_,_,_,rfl,rfl,iv,iu,it,(hS.pick (A:=[_,_,_,_]) [2,1,0,0] rfl)⟩
    obtain rfl:=Aa0 h
    have h:=congrArg some (hO _ rfl)
    obtain rfl:=Aa0 h
    exact hJ46 _ _ ⟨_,_,_,_,_,_,rfl,rfl,b9,b0,(hS.pick (A:=[_,_,_,_]) [0,0,1] rfl)⟩
   clear fv hS
   rintro s w ⟨bw,bx,bz,aj,ao,cp,rfl,rfl,iw,iy,hS⟩
   have h:=hn
   try dsimp only
   obtain ⟨lx,iz,h⟩:=bnd h
   obtain ⟨rfl,gj⟩:=mkE iz
   have i0:=AllD.repl (L:=(cp::B)) (b:=false) (e:=0) ((i64.wrap (a+2))).toNat
   refine Fq1 hS gj rfl ?_;clear hS gj;intro cx w hS
   obtain ⟨i1,gk,i2⟩:=bnd h
   refine Aa9 (fun s w=>∃ (dj:List Dy) (e2:List Hd) (e3:It),dj=i1∧s=(())∧AllD (e3::B) dj e2∧Ho w0 w ((sl (some ⟨cx,0,none⟩) ((((i64.wrap (a+2))).toNat)*3) ((((i64.wrap (a+2))).toNat)*3) (dyC dj e2) N.Hp2)::e3::L)) (fun ly hJ132=>?_) ?_
   ·
    have h:=gk
    refine Ab4 (fun s w t=>∃ (cy:Int) (dk:List Dy) (e4:List Hd) (aq:It),(cy,dk)=t∧s=(cy,())∧AllD (aq::B) dk e4∧AllD (aq::B) c d∧AllD (aq::B) aj ao∧Ho w0 w ((sl (some ⟨cx,0,none⟩) ((((i64.wrap (a+2))).toNat)*3) ((((i64.wrap (a+2))).toNat)*3) (dyC dk e4) N.Hp2)::(sl f (i*3) (j*3) (dyC c d) N.Hp2)::(sl bw (bx*3) (bz*3) (dyC aj ao) N.Hp2)::aq::L)) ?_ h ⟨_,_,_,_,rfl,rfl,i0,iw,iy,hS⟩
    clear h hS
    rintro s w t X q ⟨cy,dk,e4,aq,rfl,rfl,a4,cz,c2,hS⟩ h hX hO
    unfold Ad8 at h
    try dsimp only
    refine Aa4 h ?_ ?_<;>intro hc h
    ·
     obtain ⟨⟨gl,bk,gm⟩,gn,h⟩:=bnd h
     refine Am7 H hS  gn ?_;clear hS gn;rintro bl bm bo w hS
     refine ⟨_,_,_,_,_,rfl,?_⟩
     obtain ⟨lz,i3,h⟩:=bnd h
     obtain ⟨l1,l2,l3,jg,go,dm⟩:=AllD.atE a4 i3
     refine Cz2 a4.len ((Ent.sl mp1).nw hS) jg go ?_
     replace hS:=ro4 hS
     replace hS:=ro1 hS
     have e5:Ent ((sl bl bm bo (List.map (AA .u64) bk) N.Hr2)::aq::B) (rdA (List.map (AA .u64) bk) bl bm bo):=(Ent.sl mp0)
     replace a4:=a4.mono (L':=(sl bl bm bo (List.map (AA .u64) bk) N.Hr2)::aq::B) (Aa5 mp1 tl2)
     replace cz:=cz.mono (L':=(sl bl bm bo (List.map (AA .u64) bk) N.Hr2)::aq::B) (Aa5 mp1 tl2)
     replace c2:=c2.mono (L':=(sl bl bm bo (List.map (AA .u64) bk) N.Hr2)::aq::B) (Aa5 mp1 tl2)
     replace dm:Ent ((sl bl bm bo (List.map (AA .u64) bk) N.Hr2)::aq::B) _:=dm.mono (Aa5 mp1 tl2)
     replace hS:=hS.both
     replace e5:=e5.both
     replace a4:=a4.both
     replace cz:=cz.both
     replace c2:=c2.both
     replace dm:=dm.both
     replace hS:=ro1 hS
     obtain ⟨l4,i4,h⟩:=bnd h
     obtain rfl:=Aa0 i4
     have i5:=a4.set (x:=(gl,bk,gm)) (g:=(bl,bm,bo)) e5 (cy).toNat
     refine Cw1 (x:=(gl,bk,gm)) (g:=(bl,bm,bo)) hS a4.len rfl go ?_;intro w hS
     obtain ⟨i6,gp,i7⟩:=bnd h
     refine Aa9 (fun s w=>∃ (dn:List Dy) (e6:List Hd) (c3:It),dn=i6∧s=(())∧AllD (c3::B) dn e6∧AllD (c3::B) c d∧AllD (c3::B) aj ao∧Ho w0 w ((sl (some ⟨cx,0,none⟩) ((((i64.wrap (a+2))).toNat)*3) ((((i64.wrap (a+2))).toNat)*3) (dyC dn e6) N.Hp2)::(sl f (i*3) (j*3) (dyC c d) N.Hp2)::(sl bw (bx*3) (bz*3) (dyC aj ao) N.Hp2)::c3::L)) (fun l5 hJ148=>?_) ?_
     ·
      have h:=gp
      refine Ab4 (fun s w t=>∃ (e7:Int) (c4:List Dy) (dp:List Hd) (ab:It),(e7,c4)=t∧s=(e7,())∧AllD (ab::B) c4 dp∧AllD (ab::B) c d∧AllD (ab::B) aj ao∧Ho w0 w ((sl (some ⟨cx,0,none⟩) ((((i64.wrap (a+2))).toNat)*3) ((((i64.wrap (a+2))).toNat)*3) (dyC c4 dp) N.Hp2)::(sl f (i*3) (j*3) (dyC c d) N.Hp2)::(sl bw (bx*3) (bz*3) (dyC aj ao) N.Hp2)::ab::L)) ?_ h ⟨_,_,_,_,rfl,rfl,i5,cz,c2,(hS.pick (A:=[_,_,_,_]) [0,1,1,0] rfl)⟩
      clear h hS
      rintro s w t X q ⟨e7,c4,dp,ab,rfl,rfl,ag,an,ar,hS⟩ h hX hO
      unfold Ae2 at h
      try dsimp only
      obtain ⟨i8,gq,i9⟩:=bnd h
      refine Aa9 (fun s w=>∃ (e8:Bool),e8=i8∧s=(e8,())∧Ho w0 w ((sl (some ⟨cx,0,none⟩) ((((i64.wrap (a+2))).toNat)*3) ((((i64.wrap (a+2))).toNat)*3) (dyC c4 dp) N.Hp2)::(sl f (i*3) (j*3) (dyC c d) N.Hp2)::(sl bw (bx*3) (bz*3) (dyC aj ao) N.Hp2)::ab::L)) (fun l6 hJ154=>?_) ?_
      ·
       have h:=gq
       refine Aa4 h ?_ ?_<;>intro hc h
       ·
        obtain ⟨l7,ja,h⟩:=bnd h
        obtain rfl:=Eu8 ja an.len ((Ent.sl mp1).nw hS)
        exact hJ154 _ _ ⟨_,Aa0 h,rfl,hS⟩
       exact hJ154 _ _ ⟨_,Aa0 h,rfl,hS⟩
      clear gq hS
      rintro s w ⟨e8,rfl,rfl,hS⟩
      have h:=i9
      try dsimp only
      refine Aa4 h ?_ ?_<;>intro hc h
      ·
       obtain ⟨l8,jb,h⟩:=bnd h
       obtain ⟨l9,cg,ch,jh,jj,bp⟩:=AllD.atE ag jb
       refine Cz2 ag.len ((Ent.sl mp0).nw hS) jh jj ?_
       refine ⟨_,(Bq3 ((Ent.sl mp0).nw hS) rfl ch cg),?_⟩
       refine ⟨_,_,_,(Bm9 ((Ent.sl mp0).nw hS) rfl ch cg),?_⟩
       refine ⟨_,(Bj1 ((Ent.sl mp0).nw hS) rfl ch cg),?_⟩
       obtain ⟨ma,jm,h⟩:=bnd h
       obtain ⟨mb,e9,fa,ji,jn,b3⟩:=AllD.atE ar jm
       refine Ah3 ar.len ((Ent.sl mp2).nw hS) ji jn ?_;intro mc fb
       refine ⟨_,(Bq3 ((Ent.sl mp2).nw hS) fb fa e9),?_⟩
       refine ⟨_,_,_,(Bm9 ((Ent.sl mp2).nw hS) fb fa e9),?_⟩
       refine ⟨_,(Bj1 ((Ent.sl mp2).nw hS) fb fa e9),?_⟩
       obtain ⟨md,jo,h⟩:=bnd h
       obtain ⟨me,fc,fd,jk,jp,b4⟩:=AllD.atE an jo
       refine Ah3 an.len ((Ent.sl mp1).nw hS) jk jp ?_;intro mf fe
       refine ⟨_,(Bq3 ((Ent.sl mp1).nw hS) fe fd fc),?_⟩
       refine ⟨_,_,_,(Bm9 ((Ent.sl mp1).nw hS) fe fd fc),?_⟩
       refine ⟨_,(Bj1 ((Ent.sl mp1).nw hS) fe fd fc),?_⟩
       refine Aa7 hS ?_;intro w hS
       obtain ⟨⟨mg,bq,mh⟩,gr,h⟩:=bnd h
       refine Bn9 H hS (b3.mono (Aa5 mp3 (fun e he=>tl4 e (hB e he)))) (b4.mono (Aa5 mp3 (fun e he=>tl4 e (hB e he)))) gr ?_;clear hS gr;rintro br bs bt w hS
       refine ⟨_,_,_,_,_,rfl,?_⟩
       refine ⟨Bq3 ((Ent.sl mp1).nw hS) rfl ch cg,?_⟩
       refine ⟨Bm9 ((Ent.sl mp1).nw hS) rfl ch cg,?_⟩
       refine ⟨Bj1 ((Ent.sl mp1).nw hS) rfl ch cg,?_⟩
       refine Aa7 hS ?_;intro w hS
       obtain ⟨⟨gs,ff,gt⟩,gu,h⟩:=bnd h
       refine Bd2 H hS (bp.mono (Aa5 mp4 (fun e he=>tl5 e (hB e he)))) (Ent.sl mp0) gu ?_;clear hS gu;rintro bu fg fh fi w jq hS
       refine ⟨_,_,_,_,_,rfl,?_⟩
       obtain ⟨mi,jr,h⟩:=bnd h
       obtain ⟨mj,ml,mm,jl,gv,ci⟩:=AllD.atE ag jr
       refine Cz2 ag.len ((Ent.sl mp2).nw hS) jl gv ?_
       refine Aa7 hS ?_;intro w hS
       replace hS:=ro5 hS
       replace hS:=ro2 hS
       replace hS:=ro2 hS
       have c5:Ent (bu::(sl br bs bt (List.map (AA .u64) bq) N.Hr2)::ab::B) (rdA (List.map (AA .u64) ff) fg fh fi):=(jq _ mp0 (bp.mono (Aa5 mp2 tl3)) (Ent.sl mp1))
       replace ag:=ag.mono (L':=bu::(sl br bs bt (List.map (AA .u64) bq) N.Hr2)::ab::B) (Aa5 mp2 tl3)
       replace an:=an.mono (L':=bu::(sl br bs bt (List.map (AA .u64) bq) N.Hr2)::ab::B) (Aa5 mp2 tl3)
       replace ar:=ar.mono (L':=bu::(sl br bs bt (List.map (AA .u64) bq) N.Hr2)::ab::B) (Aa5 mp2 tl3)
       replace bp:Ent (bu::(sl br bs bt (List.map (AA .u64) bq) N.Hr2)::ab::B) _:=bp.mono (Aa5 mp2 tl3)
       replace b3:Ent (bu::(sl br bs bt (List.map (AA .u64) bq) N.Hr2)::ab::B) _:=b3.mono (Aa5 mp2 tl3)
       replace b4:Ent (bu::(sl br bs bt (List.map (AA .u64) bq) N.Hr2)::ab::B) _:=b4.mono (Aa5 mp2 tl3)
       replace ci:Ent (bu::(sl br bs bt (List.map (AA .u64) bq) N.Hr2)::ab::B) _:=ci.mono (Aa5 mp2 tl3)
       replace hS:=hS.both
       replace c5:=c5.both
       replace ag:=ag.both
       replace an:=an.both
       replace ar:=ar.both
       replace bp:=bp.both
       replace b3:=b3.both
       replace b4:=b4.both
       replace ci:=ci.both
       replace hS:=hS.both
       replace c5:=c5.both
       replace ag:=ag.both
       replace an:=an.both
       replace ar:=ar.both
       replace bp:=bp.both
       replace b3:=b3.both
       replace b4:=b4.both
       replace ci:=ci.both
       replace hS:=ro1 hS
       obtain ⟨mn,js,h⟩:=bnd h
       obtain rfl:=Aa0 js
       have jt:=ag.set (x:=(gs,ff,gt)) (g:=(fg,fh,fi)) c5 (cy).toNat
       refine Cw1 (x:=(gs,ff,gt)) (g:=(fg,fh,fi)) hS ag.len rfl gv ?_;intro w hS
       refine Aa7 hS ?_;intro w hS
       obtain rfl:=Aa0 h
       exact hX _ rfl _ _ ⟨_,_,_,_,rfl,rfl,jt,an,ar,(hS.pick (A:=[_,_,_,_]) [0,1,1,0] rfl)⟩
      obtain rfl:=Aa0 h
      have h:=congrArg some (hO _ rfl)
      obtain rfl:=Aa0 h
      exact hJ148 _ _ ⟨_,_,_,rfl,rfl,ag,an,ar,hS⟩
     clear gp hS
     rintro s w ⟨dn,e6,c3,rfl,rfl,ju,jv,jw,hS⟩
     have h:=i7
     try dsimp only
     obtain rfl:=Aa0 h
     exact hX _ rfl _ _ ⟨_,_,_,_,rfl,rfl,ju,jv,jw,hS⟩
    obtain rfl:=Aa0 h
    have h:=congrArg some (hO _ rfl)
    obtain rfl:=Aa0 h
    exact hJ132 _ _ ⟨_,_,_,rfl,rfl,a4,(hS.pick (A:=[_,_,_,_]) [0,2] rfl)⟩
   clear gk hS
   rintro s w ⟨dj,e2,e3,rfl,rfl,jx,hS⟩
   have h:=i2
   try dsimp only
   obtain rfl:=Aa0 h
   exact hX _ rfl _ _ ⟨_,_,_,_,_,_,_,rfl,rfl,jx,hS⟩
  obtain rfl:=Aa0 h
  have h:=congrArg some (hO _ rfl)
  obtain rfl:=Aa0 h
  exact hJ11 _ _ ⟨_,_,_,_,_,_,rfl,rfl,b5,hS⟩
 clear fm hS
 rintro s w ⟨a5,m6,c7,t5,dr,ds,rfl,rfl,jy,hS⟩
 have h:=g1
 try dsimp only
 cases Aa0 h
 exact hK _ _ _ _ _ _ jy hS
theorem Ck4 {d qj qq} {H0:List Hd} {l0:List Dy} {u0 u1 u2} (hS:Ho w0 w L) (qx:Ent L (rdA (dyC l0 H0) d (qj*3) (qq*3))) (e:AllD L l0 H0) (h:Aq0 l0=some (u0,u1,u2)) (hK:∀ v,Ho w0 v L→K (.agg #[.int .i64 u0,.int .i64 u1,.int .i64 u2]) v):Aa1 P N.Hm6 #[.slice d qj qq] w K:=by
 refine H.r16_signs d qj qq w _ ?_
 unfold Cw0
 unfold Aq0 at h
 try dsimp only
 refine Ab2 hS ?_;intro a w hS
 obtain ⟨t1,aa,h⟩:=bnd h
 obtain rfl:=Eu8 aa e.len ((qx.mono tl1).nw hS)
 refine Ab2 hS ?_;intro b w hS
 obtain ⟨o3,x,c3⟩:=bnd h
 refine Aa9 (fun s w=>∃ (f:Int) (g:Int),(f,g)=o3∧s=(())∧Ho w0 w ((cl b [.int .i64 0,.int .i64 f,.int .i64 g] N.Hs2)::(cl a [.int .i64 0,.int .i64 0,.int .i64 0] N.Hs2)::L)) (fun J3 hJ3=>?_) ?_
 ·
  have h:=x
  refine Ab4 (fun s w t=>∃ (i:Int) (j:Int) (c:Int) (k:Int),(i,j,c,k)=t∧s=(i,j,())∧Ho w0 w ((cl b [.int .i64 0,.int .i64 c,.int .i64 k] N.Hs2)::(cl a [.int .i64 0,.int .i64 0,.int .i64 0] N.Hs2)::L)) ?_ h ⟨_,_,_,_,rfl,rfl,hS⟩
  clear h hS
  rintro s w t X q ⟨i,j,c,k,rfl,rfl,hS⟩ h hX hO
  unfold As5 at h
  try dsimp only
  refine Aa4 h ?_ ?_<;>intro hc h
  ·
   obtain ⟨o4,y,c4⟩:=bnd h
   refine Aa9 (fun s w=>∃ (l:Int) (m:Int) (n:Int),(l,m,n)=o4∧s=(l,())∧Ho w0 w ((cl b [.int .i64 0,.int .i64 m,.int .i64 n] N.Hs2)::(cl a [.int .i64 0,.int .i64 0,.int .i64 0] N.Hs2)::L)) (fun J4 hJ4=>?_) ?_
   ·
    have h:=y
    obtain ⟨af,ab,h⟩:=bnd h
    obtain ⟨ag,o,p,vw,ac,ad⟩:=AllD.atE e ab
    refine Ah3 e.len ((qx.mono tl2).nw hS) vw ac ?_;intro b6 r
    refine ⟨_,(Bq3 ((qx.mono tl2).nw hS) r p o),?_⟩
    refine ⟨_,_,_,(Bm9 ((qx.mono tl2).nw hS) r p o),?_⟩
    refine ⟨_,(Bj1 ((qx.mono tl2).nw hS) r p o),?_⟩
    obtain ⟨ah,ae,h⟩:=bnd h
    refine Av8 H hS (ad.mono tl2) ae ?_;rintro w hS
    refine ⟨_,rfl,?_⟩
    refine Aa4 h ?_ ?_<;>intro hc h
    ·
     exact hJ4 _ _ ⟨_,_,_,Aa0 h,rfl,hS⟩
    obtain ⟨o7,z,c7⟩:=bnd h
    refine Aa9 (fun s w=>∃ (u:Int),u=o7∧s=(())∧Ho w0 w ((cl b [.int .i64 0,.int .i64 c,.int .i64 u] N.Hs2)::(cl a [.int .i64 0,.int .i64 0,.int .i64 0] N.Hs2)::L)) (fun J7 hJ7=>?_) ?_
    ·
     have h:=z
     refine Aa4 h ?_ ?_<;>intro hc h
     ·
      refine ⟨_,hS.cel mp0 rfl,?_⟩
      refine Aa8 hS rfl rfl ?_;intro w hS
      exact hJ7 _ _ ⟨_,Aa0 h,rfl,hS⟩
     exact hJ7 _ _ ⟨_,Aa0 h,rfl,hS⟩
    clear z hS
    rintro s w ⟨u,rfl,rfl,hS⟩
    have h:=c7
    try dsimp only
    refine Aa8 hS rfl rfl ?_;intro w hS
    exact hJ4 _ _ ⟨_,_,_,Aa0 h,rfl,hS⟩
   clear y hS
   rintro s w ⟨l,m,n,rfl,rfl,hS⟩
   have h:=c4
   try dsimp only
   obtain rfl:=Aa0 h
   exact hX _ rfl _ _ ⟨_,_,_,_,rfl,rfl,hS⟩
  obtain rfl:=Aa0 h
  have h:=congrArg some (hO _ rfl)
  exact hJ3 _ _ ⟨_,_,Aa0 h,rfl,hS⟩
 clear x hS
 rintro s w ⟨f,g,rfl,rfl,hS⟩
 have h:=c3
 try dsimp only
 refine ⟨_,hS.cel mp0 rfl,_,hS.cel mp0 rfl,?_⟩
 refine Aa8 hS rfl rfl ?_;intro w hS
 refine ⟨_,hS.cel mp0 rfl,_,hS.cel mp0 rfl,_,hS.cel mp0 rfl,?_⟩
 replace hS:=ro1 hS
 refine Aa8 hS rfl rfl ?_;intro w hS
 refine Aa8 hS rfl rfl ?_;intro w hS
 refine Aa8 hS rfl rfl ?_;intro w hS
 refine ⟨_,hS.cel mp0 rfl,_,hS.cel mp0 rfl,_,hS.cel mp0 rfl,?_⟩
 cases Aa0 h
 exact hK _ (hS.pick (A:=[_,_]) [] rfl)
theorem Dt2 {B:List It} {qd qb qf qk qm} {H0_2:List Hd} {i:List Dy} {u0 u1 u2 l} (hS:Ho w0 w L) (hB:∀ e,e∈B→e∈L) (qz:Ent L (rdA (dyC i H0_2) qf (qk*3) (qm*3))) (m:AllD B i H0_2) (h:At0 qd qb i=some (u0,u1,u2,l)) (hK:∀ n,Ho w0 n L→K (.tuple #[.agg #[.int .i64 u0,.int .i64 u1,.int .i64 u2],.int .i64 l]) n):Aa1 P N.Hl6 #[.agg #[.int .i64 qd,.int .i64 qb,.slice qf qk qm]] w K:=by
 refine H.r16_Signs qd qb qf qk qm w _ ?_
 unfold Cq1
 unfold At0 at h
 try dsimp only
 replace hS:=hS.voidItem
 refine Ab2 hS ?_;intro v w hS
 refine Ab2 hS ?_;intro x w hS
 refine ⟨_,hS.cel mp1 rfl,_,hS.cel mp1 rfl,_,_,_,hS.cel mp1 rfl,?_⟩
 obtain ⟨y,r,h⟩:=bnd h
 refine As8 H hS (qz.mono tl3) (m.mono (fun e he=>tl3 e (hB e he))) r ?_;rintro w hS
 refine ⟨_,rfl,?_⟩
 refine Aa4 h ?_ ?_<;>intro hc h
 ·
  refine Aa8 hS rfl rfl ?_;intro w hS
  refine Aa8 hS rfl rfl ?_;intro w hS
  refine Aa8 hS rfl rfl ?_;intro w hS
  refine ⟨_,hS.cel mp0 rfl,_,hS.cel mp0 rfl,_,hS.cel mp0 rfl,?_⟩
  cases Aa0 h
  exact hK _ (hS.pick (A:=[_,_,_]) [] rfl)
 refine ⟨_,hS.cel mp1 rfl,_,hS.cel mp1 rfl,_,_,_,hS.cel mp1 rfl,?_⟩
 refine Aa7 hS ?_;intro w hS
 obtain ⟨⟨z,c,t4⟩,o,h⟩:=bnd h
 refine Am7 H hS  o ?_;clear hS o;rintro d f g w hS
 refine ⟨_,_,_,_,_,rfl,?_⟩
 refine ⟨(hS.cel mp2 rfl),?_⟩
 refine ⟨(hS.cel mp2 rfl),?_⟩
 refine ⟨(hS.cel mp2 rfl),?_⟩
 refine Aa7 hS ?_;intro w hS
 replace hS:=ro3 hS
 replace hS:=ro1 hS
 have a:Ent ((sl d f g (List.map (AA .u64) c) N.Hr2)::vd::B) (rdA (List.map (AA .u64) c) d f g):=(Ent.sl mp0)
 replace hS:=hS.both
 replace a:=a.both
 obtain ⟨t5,s,h⟩:=bnd h
 refine Bg1 H hS (Aa5 mp0 (fun e he=>tl3 e (hB e he))) (qz.mono tl3) (m.mono tl1) (a.mono (Aa5 mp0 tl1)) s ?_;rintro a5 m5 c5 aa j w b hS
 refine ⟨_,_,_,rfl,?_⟩
 replace hS:=ro2 hS
 replace hS:=ro2 hS
 replace hS:=hS.both
 replace b:=b.both
 replace a:Ent (both j (both (sl d f g (List.map (AA .u64) c) N.Hr2) vd)::B) _:=Ent.both (a.mono (Aa5 mp1 tl2))
 refine Aa7 hS ?_;intro w hS
 refine ⟨_,hS.cel mp3 rfl,?_⟩
 obtain ⟨t6,t,h⟩:=bnd h
 refine Bv3 H hS (Ent.sl mp1) (b.mono (Aa5 mp0 (fun e he=>tl4 e (hB e he)))) t ?_;rintro w hS
 refine ⟨_,rfl,?_⟩
 refine Aa4 h ?_ ?_<;>intro hc h
 ·
  replace hS:=ro2 hS
  refine Aa8 hS rfl rfl ?_;intro w hS
  refine Aa8 hS rfl rfl ?_;intro w hS
  refine Aa8 hS rfl rfl ?_;intro w hS
  refine ⟨_,hS.cel mp0 rfl,_,hS.cel mp0 rfl,_,hS.cel mp0 rfl,?_⟩
  cases Aa0 h
  exact hK _ (hS.pick (A:=[_,_,_,_]) [] rfl)
 refine ⟨_,hS.cel mp3 rfl,?_⟩
 obtain ⟨t7,u,h⟩:=bnd h
 refine At4 H hS (Aa5 mp0 (fun e he=>tl4 e (hB e he))) (Ent.sl mp1) (b.mono (Aa5 mp0 tl1)) u ?_;rintro a6 m6 c6 ab p w k hS
 refine ⟨_,_,_,rfl,?_⟩
 replace hS:=ro2 hS
 replace hS:=ro2 hS
 replace hS:=hS.both
 replace k:=k.both
 replace b:=(b.mono (L':=p::(both j (both (sl d f g (List.map (AA .u64) c) N.Hr2) vd))::B) (Aa5 mp1 tl2)).both
 replace a:Ent (both p (both j (both (sl d f g (List.map (AA .u64) c) N.Hr2) vd))::B) _:=Ent.both (a.mono (Aa5 mp1 tl2))
 obtain ⟨⟨t8,t9,ac⟩,q,h⟩:=bnd h
 refine Ck4 H hS (Ent.sl mp1) (k.mono (Aa5 mp0 (fun e he=>tl5 e (hB e he)))) q ?_;clear hS q;rintro w hS
 refine ⟨_,_,_,rfl,?_⟩
 replace hS:=ro3 hS
 refine Aa8 hS rfl rfl ?_;intro w hS
 refine Aa8 hS rfl rfl ?_;intro w hS
 refine Aa8 hS rfl rfl ?_;intro w hS
 refine ⟨_,hS.cel mp0 rfl,_,hS.cel mp0 rfl,_,hS.cel mp0 rfl,?_⟩
 cases Aa0 h
 exact hK _ (hS.pick (A:=[_,_,_,_,_]) [] rfl)
theorem Dt5 {B:List It} {qd qb qf qk qm} {H0_2:List Hd} {i:List Dy} {qt qs qo qp l1_1 qw u0 u1} (hS:Ho w0 w L) (hB:∀ e,e∈B→e∈L) (qz:Ent L (rdA (dyC i H0_2) qf (qk*3) (qm*3))) (l:AllD B i H0_2) (qy:Ent B (rdA (List.map (AA .u64) l1_1) qs qo qp)) (h:Aq2 qd qb i qt l1_1 qw=some (u0,u1)) (hK:∀ m,Ho w0 m L→K (.tuple #[.int .i64 u0,.int .i64 u1]) m):Aa1 P N.Hn7 #[.agg #[.int .i64 qd,.int .i64 qb,.slice qf qk qm],.agg #[.bool qt,.slice qs qo qp,.int .i64 qw]] w K:=by
 refine H.r16_Below qd qb qf qk qm qt qs qo qp qw w _ ?_
 unfold Cq8
 unfold Aq2 at h
 try dsimp only
 replace hS:=hS.voidItem
 refine Ab2 hS ?_;intro v w hS
 refine Ab2 hS ?_;intro x w hS
 refine ⟨_,hS.cel mp1 rfl,_,hS.cel mp1 rfl,_,_,_,hS.cel mp1 rfl,?_⟩
 obtain ⟨y,q,h⟩:=bnd h
 refine As8 H hS (qz.mono tl3) (l.mono (fun e he=>tl3 e (hB e he))) q ?_;rintro w hS
 refine ⟨_,rfl,?_⟩
 refine Aa4 h ?_ ?_<;>intro hc h
 ·
  cases Aa0 h
  exact hK _ (hS.pick (A:=[_,_,_]) [] rfl)
 refine ⟨_,hS.cel mp0 rfl,_,_,_,hS.cel mp0 rfl,_,hS.cel mp0 rfl,?_⟩
 obtain ⟨z,r,h⟩:=bnd h
 refine Ck9 H hS (qy.mono (fun e he=>tl3 e (hB e he))) r ?_;rintro w hS
 refine ⟨_,rfl,?_⟩
 refine Aa4 h ?_ ?_<;>intro hc h
 ·
  cases Aa0 h
  exact hK _ (hS.pick (A:=[_,_,_]) [] rfl)
 refine ⟨_,hS.cel mp1 rfl,_,hS.cel mp1 rfl,_,_,_,hS.cel mp1 rfl,_,hS.cel mp0 rfl,_,_,_,hS.cel mp0 rfl,_,hS.cel mp0 rfl,?_⟩
 refine Aa7 hS ?_;intro w hS
 obtain ⟨⟨t3,c,t5⟩,n,h⟩:=bnd h
 refine Bk6 H hS (qy.mono (fun e he=>tl3 e (hB e he))) n ?_;clear hS n;rintro d f g w hS
 refine ⟨_,_,_,_,_,rfl,?_⟩
 refine ⟨(hS.cel mp2 rfl),?_⟩
 refine ⟨(hS.cel mp2 rfl),?_⟩
 refine ⟨(hS.cel mp2 rfl),?_⟩
 refine Aa7 hS ?_;intro w hS
 replace hS:=ro3 hS
 replace hS:=ro1 hS
 have a:Ent ((sl d f g (List.map (AA .u64) c) N.Hr2)::vd::B) (rdA (List.map (AA .u64) c) d f g):=(Ent.sl mp0)
 replace hS:=hS.both
 replace a:=a.both
 obtain ⟨t6,s,h⟩:=bnd h
 refine Bg1 H hS (Aa5 mp0 (fun e he=>tl3 e (hB e he))) (qz.mono tl3) (l.mono tl1) (a.mono (Aa5 mp0 tl1)) s ?_;rintro a5 m5 c5 aa j w b hS
 refine ⟨_,_,_,rfl,?_⟩
 replace hS:=ro2 hS
 replace hS:=ro2 hS
 replace hS:=hS.both
 replace b:=b.both
 replace a:Ent (both j (both (sl d f g (List.map (AA .u64) c) N.Hr2) vd)::B) _:=Ent.both (a.mono (Aa5 mp1 tl2))
 refine Aa7 hS ?_;intro w hS
 refine ⟨_,hS.cel mp3 rfl,?_⟩
 obtain ⟨t7,t,h⟩:=bnd h
 refine Bv3 H hS (Ent.sl mp1) (b.mono (Aa5 mp0 (fun e he=>tl4 e (hB e he)))) t ?_;rintro w hS
 refine ⟨_,rfl,?_⟩
 refine Aa4 h ?_ ?_<;>intro hc h
 ·
  cases Aa0 h
  exact hK _ (hS.pick (A:=[_,_,_,_]) [] rfl)
 refine ⟨_,hS.cel mp3 rfl,?_⟩
 obtain ⟨t8,u,h⟩:=bnd h
 refine At4 H hS (Aa5 mp0 (fun e he=>tl4 e (hB e he))) (Ent.sl mp1) (b.mono (Aa5 mp0 tl1)) u ?_;rintro a6 m6 c6 ab o w k hS
 refine ⟨_,_,_,rfl,?_⟩
 replace hS:=ro2 hS
 replace hS:=ro2 hS
 replace hS:=hS.both
 replace k:=k.both
 replace b:=(b.mono (L':=o::(both j (both (sl d f g (List.map (AA .u64) c) N.Hr2) vd))::B) (Aa5 mp1 tl2)).both
 replace a:Ent (both o (both j (both (sl d f g (List.map (AA .u64) c) N.Hr2) vd))::B) _:=Ent.both (a.mono (Aa5 mp1 tl2))
 obtain ⟨⟨t9,ac,ad⟩,p,h⟩:=bnd h
 refine Ck4 H hS (Ent.sl mp1) (k.mono (Aa5 mp0 (fun e he=>tl5 e (hB e he)))) p ?_;clear hS p;rintro w hS
 refine ⟨_,_,_,rfl,?_⟩
 cases Aa0 h
 exact hK _ (hS.pick (A:=[_,_,_,_,_]) [] rfl)
theorem Eg8 {B:List It} {qd qb qf qk qm} {H0_2:List Hd} {z:List Dy} {u0:List Dy} {u1} (hS:Ho w0 w L) (hB:∀ e,e∈B→e∈L) (qz:Ent L (rdA (dyC z H0_2) qf (qk*3) (qm*3))) (ao:AllD B z H0_2) (h:Ax8 qd qb z=some (u0,u1)) (hK:∀ (a0:OA) (n0 c0:Nat) (ap:List Hd) (aq:It) (w1:World),(AllD (aq::B) u0 ap)→Ho w0 w1 ((sl a0 (n0*3) (c0*3) (dyC u0 ap) N.Hs7)::aq::L)→K (.tuple #[.slice a0 n0 c0,.int .i64 u1]) w1):Aa1 P N.Ho4 #[.agg #[.int .i64 qd,.int .i64 qb,.slice qf qk qm]] w K:=by
 refine H.r16_Poly qd qb qf qk qm w _ ?_
 unfold Di4
 unfold Ax8 at h
 try dsimp only
 replace hS:=hS.voidItem
 refine Ab2 hS ?_;intro r1 w hS
 refine ⟨_,hS.cel mp0 rfl,_,hS.cel mp0 rfl,_,_,_,hS.cel mp0 rfl,?_⟩
 obtain ⟨t1,a1,h⟩:=bnd h
 refine As8 H hS (qz.mono tl2) (ao.mono (fun e he=>tl2 e (hB e he))) a1 ?_;rintro w hS
 refine ⟨_,rfl,?_⟩
 refine Aa4 h ?_ ?_<;>intro hc h
 ·
  replace hS:=hS.noneD (t:=N.Hs7)
  cases Aa0 h
  exact hK _ _ _ _ _ _ (AllD.nil (L:=(vd::B))) (hS.pick (A:=[_,_,_]) [0,1] rfl)
 refine ⟨_,hS.cel mp0 rfl,_,hS.cel mp0 rfl,_,_,_,hS.cel mp0 rfl,?_⟩
 refine Aa7 hS ?_;intro w hS
 obtain ⟨⟨t2,g,t4⟩,ar,h⟩:=bnd h
 refine Am7 H hS  ar ?_;clear hS ar;rintro i j k w hS
 refine ⟨_,_,_,_,_,rfl,?_⟩
 refine ⟨(hS.cel mp1 rfl),?_⟩
 refine ⟨(hS.cel mp1 rfl),?_⟩
 refine ⟨(hS.cel mp1 rfl),?_⟩
 refine Aa7 hS ?_;intro w hS
 replace hS:=ro2 hS
 replace hS:=ro1 hS
 have l:Ent ((sl i j k (List.map (AA .u64) g) N.Hr2)::vd::B) (rdA (List.map (AA .u64) g) i j k):=(Ent.sl mp0)
 replace hS:=hS.both
 replace l:=l.both
 obtain ⟨t5,a3,h⟩:=bnd h
 refine Bg1 H hS (Aa5 mp0 (fun e he=>tl2 e (hB e he))) (qz.mono tl2) (ao.mono tl1) (l.mono (Aa5 mp0 tl1)) a3 ?_;rintro a4 m4 c4 bk r w p hS
 refine ⟨_,_,_,rfl,?_⟩
 replace hS:=ro2 hS
 replace hS:=ro2 hS
 replace hS:=hS.both
 replace p:=p.both
 replace l:Ent (both r (both (sl i j k (List.map (AA .u64) g) N.Hr2) vd)::B) _:=Ent.both (l.mono (Aa5 mp1 tl2))
 refine Aa7 hS ?_;intro w hS
 refine ⟨_,hS.cel mp2 rfl,?_⟩
 obtain ⟨t6,a7,h⟩:=bnd h
 refine Bv3 H hS (Ent.sl mp1) (p.mono (Aa5 mp0 (fun e he=>tl3 e (hB e he)))) a7 ?_;rintro w hS
 refine ⟨_,rfl,?_⟩
 refine Aa4 h ?_ ?_<;>intro hc h
 ·
  replace hS:=hS.noneD (t:=N.Hs7)
  cases Aa0 h
  exact hK _ _ _ _ _ _ (AllD.nil (L:=((both r (both (sl i j k (List.map (AA .u64) g) N.Hr2) vd))::B))) (hS.pick (A:=[_,_,_,_]) [0,0] rfl)
 refine ⟨_,hS.cel mp2 rfl,?_⟩
 obtain ⟨t7,a8,h⟩:=bnd h
 refine At4 H hS (Aa5 mp0 (fun e he=>tl3 e (hB e he))) (Ent.sl mp1) (p.mono (Aa5 mp0 tl1)) a8 ?_;rintro a5 m5 c5 au aa w v hS
 refine ⟨_,_,_,rfl,?_⟩
 replace hS:=ro2 hS
 replace hS:=ro2 hS
 replace hS:=hS.both
 replace v:=v.both
 replace p:=(p.mono (L':=aa::(both r (both (sl i j k (List.map (AA .u64) g) N.Hr2) vd))::B) (Aa5 mp1 tl2)).both
 replace l:Ent (both aa (both r (both (sl i j k (List.map (AA .u64) g) N.Hr2) vd))::B) _:=Ent.both (l.mono (Aa5 mp1 tl2))
 obtain ⟨t8,a9,h⟩:=bnd h
 obtain rfl:=Eu8 a9 v.len ((Ent.sl mp1).nw hS)
 obtain ⟨ba,av,aw⟩:=bnd h
 refine Aa9 (fun s w=>∃ (a6:OA) (m7:Nat) (c8:Nat) (x:List Dy) (ab:List Hd) (ac:It),.inl x=ba∧s=((a6,m7,c8),())∧AllD (ac::B) x ab∧Ho w0 w ((sl a6 (m7*3) (c8*3) (dyC x ab) N.Hs7)::ac::L)) (fun bl hJ12=>?_) ?_
 ·
  have h:=av
  replace hS:=hS.noneD (t:=N.Hs7)
  refine Ab4 (fun s w t=>∃ (ad:Int) (a:It) (ae:OA) (af:Nat) (ag:Nat) (y:List Dy) (ah:List Hd),(ad,y)=t∧s=((ae,af,ag),ad,())∧AllD (a::B) t7 au∧AllD (a::B) y ah∧Ho w0 w ((sl a5 (m5*3) (c5*3) (dyC t7 au) N.Hp2)::(sl ae (af*3) (ag*3) (dyC y ah) N.Hs7)::a::L)) ?_ h ⟨_,_,_,_,_,_,_,rfl,rfl,v,(AllD.nil (L:=((both aa (both r (both (sl i j k (List.map (AA .u64) g) N.Hr2) vd)))::B))),(hS.pick (A:=[_,_,_,_,_]) [2,0,0] rfl)⟩
  clear h hS
  rintro s w t X q ⟨ad,a,ae,af,ag,y,ah,rfl,rfl,n,o,hS⟩ h hX hO
  unfold Ak3 at h
  try dsimp only
  refine Aa4 h ?_ ?_<;>intro hc h
  ·
   obtain ⟨bm,bb,h⟩:=bnd h
   obtain ⟨bo,ai,aj,zc,bc,u⟩:=AllD.atE n bb
   refine Ah3 n.len ((Ent.sl mp0).nw hS) zc bc ?_;intro bp ak
   refine ⟨_,(Bq3 ((Ent.sl mp0).nw hS) ak aj ai),?_⟩
   refine ⟨_,_,_,(Bm9 ((Ent.sl mp0).nw hS) ak aj ai),?_⟩
   refine ⟨_,(Bj1 ((Ent.sl mp0).nw hS) ak aj ai),?_⟩
   obtain ⟨⟨al,b,am,bq⟩,ax,h⟩:=bnd h
   refine Cv3 H hS (u.mono (Aa5 mp2 (fun e he=>tl3 e (hB e he)))) ax ?_;clear hS ax;rintro c d f w hS
   refine ⟨_,_,_,_,_,_,rfl,?_⟩
   refine Ab2 hS ?_;intro br w hS
   refine Aa8 hS rfl rfl ?_;intro w hS
   refine Aa8 hS rfl rfl ?_;intro w hS
   refine Aa8 hS rfl rfl ?_;intro w hS
   refine Aa4 h ?_ ?_<;>intro hc h
   ·
    obtain rfl:=Aa0 h
    have h:=congrArg some (hO _ rfl)
    obtain rfl:=Aa0 h
    have h:=aw
    replace hS:=hS.noneD (t:=N.Hs7)
    cases Aa0 h
    exact hK _ _ _ _ _ _ (AllD.nil (L:=(a::B))) (hS.pick (A:=[_,_,_,_,_,_]) [0,4] rfl)
   refine ⟨_,hS.cel mp0 rfl,_,_,_,hS.cel mp0 rfl,_,hS.cel mp0 rfl,?_⟩
   replace hS:=ro4 hS
   replace hS:=ro2 hS
   have an:Ent ((sl c d f (List.map (AA .u64) b) N.Hr2)::a::B) (rdA (List.map (AA .u64) b) c d f):=(Ent.sl mp0)
   replace n:=n.mono (L':=(sl c d f (List.map (AA .u64) b) N.Hr2)::a::B) (Aa5 mp1 tl2)
   replace o:=o.mono (L':=(sl c d f (List.map (AA .u64) b) N.Hr2)::a::B) (Aa5 mp1 tl2)
   replace u:Ent ((sl c d f (List.map (AA .u64) b) N.Hr2)::a::B) _:=u.mono (Aa5 mp1 tl2)
   replace hS:=hS.both
   replace an:=an.both
   replace n:=n.both
   replace o:=o.both
   replace u:=u.both
   obtain ⟨be,bf,h⟩:=bnd h
   obtain rfl:([(al,b,am)]:List Dy)=be:=Aa0 bf
   have ay:AllD ((both (sl c d f (List.map (AA .u64) b) N.Hr2) a)::B) ([(al,b,am)]:List Dy) ([(c,d,f)]:List Hd):=(.cons an .nil)
   refine Bm3 (X:=([(al,b,am)]:List Dy)) (H:=([(c,d,f)]:List Hd)) (m:=1) hS rfl rfl rfl ?_;intro bs w hS
   obtain ⟨bt,bh,h⟩:=bnd h
   obtain ⟨rfl,az⟩:=Eq9 bh
   replace hS:=ro4 hS
   have bi:=o.append ay
   refine Bu3 hS az o.len ay.len ((Ent.sl mp1).nw hS) rfl rfl ?_;clear hS az;intro bu bv w hS
   obtain rfl:=Aa0 h
   exact hX _ rfl _ _ ⟨_,_,_,_,_,_,_,rfl,rfl,n,bi,(hS.pick (A:=[_,_,_,_,_]) [4,0,1] rfl)⟩
  obtain rfl:=Aa0 h
  have h:=congrArg some (hO _ rfl)
  obtain rfl:=Aa0 h
  exact hJ12 _ _ ⟨_,_,_,_,_,_,rfl,rfl,o,(hS.pick (A:=[_,_,_]) [1,1] rfl)⟩
 clear av hS
 rintro s w ⟨a6,m7,c8,x,ab,ac,rfl,rfl,bj,hS⟩
 have h:=aw
 try dsimp only
 cases Aa0 h
 exact hK _ _ _ _ _ _ bj hS
theorem Ce4 {qd qb qf qk qm} {H0_2:List Hd} {a:List Dy} {qt qs qw vm vn} {H1_2:List Hd} {b:List Dy} {u0} (hS:Ho w0 w L) (qz:Ent L (rdA (dyC a H0_2) qf (qk*3) (qm*3))) (d:AllD L a H0_2) (jm:Ent L (rdA (dyC b H1_2) qw (vm*3) (vn*3))) (e:AllD L b H1_2) (h:Ba6 qd qb a qt qs b=some u0) (hK:∀ c,Ho w0 c L→K (.bool u0) c):Aa1 P N.Hh2 #[.agg #[.int .i64 qd,.int .i64 qb,.slice qf qk qm],.agg #[.int .i64 qt,.int .i64 qs,.slice qw vm vn]] w K:=by
 refine H.k_SameDyadGrid qd qb qf qk qm qt qs qw vm vn w _ ?_
 unfold Bl9
 unfold Ba6 at h
 try dsimp only
 refine Ab2 hS ?_;intro g w hS
 refine Ab2 hS ?_;intro i w hS
 refine ⟨_,hS.cel mp1 rfl,_,hS.cel mp0 rfl,?_⟩
 refine Aa4 h ?_ ?_<;>intro hc h
 ·
  refine ⟨_,hS.cel mp1 rfl,_,hS.cel mp0 rfl,?_⟩
  refine Aa4 h ?_ ?_<;>intro hc h
  ·
   refine ⟨_,_,_,hS.cel mp1 rfl,_,_,_,hS.cel mp0 rfl,?_⟩
   obtain ⟨j,f,h⟩:=bnd h
   refine Bg6 H hS (qz.mono tl2) (d.mono tl2) (jm.mono tl2) (e.mono tl2) f ?_;rintro w hS
   refine ⟨_,rfl,?_⟩
   cases Aa0 h
   exact hK _ (hS.pick (A:=[_,_]) [] rfl)
  cases Aa0 h
  exact hK _ (hS.pick (A:=[_,_]) [] rfl)
 cases Aa0 h
 exact hK _ (hS.pick (A:=[_,_]) [] rfl)
theorem Da3 {b qj c qu vf a u0} (hS:Ho w0 w L) (qx:Ent L (rdA (List.map (AA .u64) (a++Au6)) b (qj+12) (qj+12))) (vg:EU L a c qu vf) (hx:Bb6 a a=some u0) (hK:∀ d,Ho w0 d L→K (.bool u0) d):Aa1 P N.Hj9 #[.slice b qj (qj+12),.slice c qu vf] w K:=by
 unfold Bb6 at hx
 have hd:a.length≤4294967000:=by
  rcases Nat.lt_or_ge 4294967000 a.length with h | h
  ·
   rw [decide_eq_false (by omega)] at hx;cases hx
  exact h
 rw [decide_eq_true hd] at hx
 have hx:=Aa0 hx
 subst hx
 have e:=(qx.nw hS).len
 have f:=(vg.nw hS).len
 have g:Au6.length=12:=rfl
 rw [AB,List.length_append,g] at e
 rw [AB] at f
 obtain rfl:qj=qu:=by omega
 exact Gk5 H hS qx vg hd hK
theorem Cc4 {qd qb qe qf qt qs qo qp l1_1 qw u0} (hS:Ho w0 w L) (qr:Ent L (rdA (List.map (AA .u64) (l1_1++Au6)) qb (qe+12) (qe+12))) (qy:EU L l1_1 qs qo qp) (h:Au4 qd l1_1 qf qt l1_1 qw=some u0) (hK:∀ a,Ho w0 a L→K (.bool u0) a):Aa1 P N.Hk1 #[.agg #[.bool qd,.slice qb qe (qe+12),.int .i64 qf],.agg #[.bool qt,.slice qs qo qp,.int .i64 qw]] w K:=by
 refine H.k_KeptDyad qd qb qe (qe+12) qf qt qs qo qp qw w _ ?_
 unfold Cj8
 unfold Au4 at h
 try dsimp only
 refine Ab2 hS ?_;intro d w hS
 refine Ab2 hS ?_;intro e w hS
 refine ⟨_,hS.cel mp1 rfl,_,_,_,hS.cel mp1 rfl,_,hS.cel mp1 rfl,_,hS.cel mp0 rfl,_,_,_,hS.cel mp0 rfl,_,hS.cel mp0 rfl,?_⟩
 obtain ⟨f,b,h⟩:=bnd h
 refine Bj5 H hS (Ent.lent (qr.mono tl2) rfl rfl) (qy.mono tl2) b ?_;rintro w hS
 refine ⟨_,rfl,?_⟩
 refine Aa4 h ?_ ?_<;>intro hc h
 ·
  refine ⟨_,_,_,hS.cel mp1 rfl,_,_,_,hS.cel mp0 rfl,?_⟩
  obtain ⟨g,c,h⟩:=bnd h
  refine Da3 H hS (qr.mono tl2) (qy.mono tl2) c ?_;rintro w hS
  refine ⟨_,rfl,?_⟩
  cases Aa0 h
  exact hK _ (hS.pick (A:=[_,_]) [] rfl)
 cases Aa0 h
 exact hK _ (hS.pick (A:=[_,_]) [] rfl)
end Go.Eng
