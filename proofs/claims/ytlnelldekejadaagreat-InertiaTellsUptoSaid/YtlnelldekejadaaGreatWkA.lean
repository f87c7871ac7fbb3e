/-
 Each function comes to what its function of plain Lean says, printed by a program of the session. No condition.
-/
import Derived.Test.YtlnelldekejadaaGreatTpA
import Derived.Test.YtlnelldekejadaaGreatSh
import Derived.Test.YtlnelldekejadaaGreatBgC
set_option linter.all false
set_option maxRecDepth 100000
set_option maxHeartbeats 4000000
open Go.Value renaming int→AA
namespace Go.Eng
open Go
open Go.IntKind (i64 u64 u32 u8)
variable {N:Nums} {P:Program} (H:AllOk N P) {w0 w:World} {L:List It} {K:KV}
include H
theorem Aj7 {a qj qq l0 d} (hS:Ho w0 w L) (qx:EW L l0 a qj qq) (h:Ag5 l0=some d) (hK:∀ e,Ho w0 e L→K (.slice (Ak1 a 0 qq 1) d.toNat qq) e):Aa1 P N.Hp6 #[.slice a qj qq] w K:=by
 refine H.bn_trim a qj qq w _ ?_
 unfold Dr7
 unfold Ag5 at h
 try dsimp only
 obtain ⟨p,i,h⟩:=bnd h
 obtain rfl:=Ai1 i (qx.nw hS)
 obtain ⟨j,f,k⟩:=bnd h
 refine Aa9 (fun s w=>∃ (b:Int),b=j∧s=(b,())∧Ho w0 w L) (fun r hJ1=>?_) ?_
 ·
  have h:=f
  refine Ab4 (fun s w t=>∃ (c:Int),c=t∧s=(c,())∧Ho w0 w L) ?_ h ⟨_,rfl,rfl,hS⟩
  clear h hS
  rintro s w t X q ⟨c,rfl,rfl,hS⟩ h hX hO
  unfold Az6 at h
  try dsimp only
  refine Aa4 h ?_ ?_<;>intro hc h
  ·
   obtain ⟨u,l,h⟩:=bnd h
   obtain ⟨g,vo,m⟩:=atE l
   refine Ad6 (qx.nw hS) g vo m ?_;intro v n
   refine ⟨_,Ab8 (qx.nw hS) n g,?_⟩
   refine Aa4 h ?_ ?_<;>intro hc h
   ·
    obtain rfl:=Aa0 h
    exact hX _ rfl _ _ ⟨_,rfl,rfl,hS⟩
   obtain rfl:=Aa0 h
   have h:=congrArg some (hO _ rfl)
   exact hJ1 _ _ ⟨_,Aa0 h,rfl,hS⟩
  obtain rfl:=Aa0 h
  have h:=congrArg some (hO _ rfl)
  exact hJ1 _ _ ⟨_,Aa0 h,rfl,hS⟩
 clear f hS
 rintro s w ⟨b,rfl,rfl,hS⟩
 have h:=k
 try dsimp only
 obtain ⟨x,o,h⟩:=bnd h
 obtain ⟨rfl,zd,yr,yt⟩:=Dm9 o
 have yu:=(qx.nw hS).hiCap yt
 refine ⟨yr,yu,?_⟩
 cases Aa0 h
 exact hK _ hS
theorem Ce3 {b qj qq l0 a u0} (hS:Ho w0 w L) (qx:EW L l0 b qj qq) (h:Bc7 l0 a=some u0) (hK:∀ (a0:OA) (f g:Nat) (i:World),Ho w0 i ((sl a0 f g (List.map (AA .u32) u0) N.Hq9)::L)→K (.slice a0 f g) i):Aa1 P N.Hp7 #[.slice b qj qq,.int .u64 a] w K:=by
 refine H.bn_left b qj qq a w _ ?_
 unfold Dq5
 unfold Bc7 at h
 try dsimp only
 obtain ⟨t1,u,h⟩:=bnd h
 obtain rfl:=Ai1 u (qx.nw hS)
 refine Aa4 h ?_ ?_<;>intro hc h
 ·
  replace hS:=hS.none (α:=Int) (enc:=(AA .u32)) (t:=N.Hq9)
  cases Aa0 h
  exact hK _ _ _ _ hS
 refine ⟨by decide,?_⟩
 refine ⟨by decide,?_⟩
 obtain ⟨t2,v,h⟩:=bnd h
 obtain rfl:=Ai1 v (qx.nw hS)
 obtain ⟨t3,x,h⟩:=bnd h
 obtain ⟨rfl,j⟩:=mkE x
 refine Ew9 (enc:=(AA .u32)) hS j rfl ?_;clear hS j;intro k w hS
 obtain ⟨y,l,z⟩:=bnd h
 refine Aa9 (fun s w=>∃ (c:List Int),c=y∧s=(())∧Ho w0 w ((sl (some ⟨k,0,none⟩) (((i64.wrap ((i64.wrap ((qj:Int)+(i64.wrap (u64.wrap (a.tdiv 32)))))+1))).toNat) (((i64.wrap ((i64.wrap ((qj:Int)+(i64.wrap (u64.wrap (a.tdiv 32)))))+1))).toNat) (List.map (AA .u32) c) N.Hq9)::L)) (fun J2 hJ2=>?_) ?_
 ·
  have h:=l
  refine Ab4 (fun s w t=>∃ (d:Int) (e:List Int),(d,e)=t∧s=(d,())∧Ho w0 w ((sl (some ⟨k,0,none⟩) (((i64.wrap ((i64.wrap ((qj:Int)+(i64.wrap (u64.wrap (a.tdiv 32)))))+1))).toNat) (((i64.wrap ((i64.wrap ((qj:Int)+(i64.wrap (u64.wrap (a.tdiv 32)))))+1))).toNat) (List.map (AA .u32) e) N.Hq9)::L)) ?_ h ⟨_,_,rfl,rfl,hS⟩
  clear h hS
  rintro s w t X q ⟨d,e,rfl,rfl,hS⟩ h hX hO
  unfold Az7 at h
  try dsimp only
  obtain ⟨t7,aa,h⟩:=bnd h
  obtain rfl:=Ai1 aa ((qx.mono tl1).nw hS)
  refine Aa4 h ?_ ?_<;>intro hc h
  ·
   obtain ⟨t8,ab,h⟩:=bnd h
   obtain ⟨m,vu,ac⟩:=atE ab
   refine Ad6 ((qx.mono tl1).nw hS) m vu ac ?_;intro b4 ad
   refine ⟨_,Ab8 ((qx.mono tl1).nw hS) ad m,?_⟩
   obtain ⟨ar,ae,h⟩:=bnd h
   refine ⟨Gr2 ae,?_⟩
   obtain ⟨t9,af,h⟩:=bnd h
   obtain ⟨n,vw,ag⟩:=atE af
   refine Av1 ((Ent.sl mp0).nw hS) n vw ag ?_
   refine ⟨_,Ab8 ((Ent.sl mp0).nw hS) rfl n,?_⟩
   obtain ⟨au,ah,h⟩:=bnd h
   obtain ⟨ai,yd,o⟩:=atE ah
   refine Av1 ((Ent.sl mp0).nw hS) ai yd o ?_
   obtain ⟨av,aj,h⟩:=bnd h
   obtain rfl:=Aa0 aj
   refine Aw7 hS rfl o ?_;intro w hS
   obtain ⟨aw,ak,h⟩:=bnd h
   obtain ⟨p,yv,al⟩:=atE ak
   refine Av1 ((Ent.sl mp0).nw hS) p yv al ?_
   refine ⟨_,Ab8 ((Ent.sl mp0).nw hS) rfl p,?_⟩
   refine ⟨by decide,?_⟩
   obtain ⟨ax,am,h⟩:=bnd h
   obtain ⟨an,vy,r⟩:=atE am
   refine Av1 ((Ent.sl mp0).nw hS) an vy r ?_
   obtain ⟨ay,ao,h⟩:=bnd h
   obtain rfl:=Aa0 ao
   refine Aw7 hS rfl r ?_;intro w hS
   obtain rfl:=Aa0 h
   exact hX _ rfl _ _ ⟨_,_,rfl,rfl,hS⟩
  obtain rfl:=Aa0 h
  have h:=congrArg some (hO _ rfl)
  exact hJ2 _ _ ⟨_,Aa0 h,rfl,hS⟩
 clear l hS
 rintro s w ⟨c,rfl,rfl,hS⟩
 have h:=z
 try dsimp only
 obtain ⟨az,ap,h⟩:=bnd h
 refine Aj7 H hS (Ent.sl mp0) ap ?_;rintro w hS
 refine ⟨_,_,_,rfl,?_⟩
 obtain ⟨a1,aq,h⟩:=bnd h
 obtain ⟨rfl,zi,zj,yw⟩:=Dm9 aq
 have zk:=((Ent.sl mp0).nw hS).hiCap yw
 replace hS:=Ho.cut hS yw
 cases Aa0 h
 exact hK _ _ _ _ hS
theorem Ds1 {r_0 qt qs qo qp l1_1 a b c} (hS:Ho w0 w ((cl r_0 [.bool qt,.slice qs qo qp] N.Hr0)::L)) (qy:EW L l1_1 qs qo qp) (h:Cn7 qt l1_1 a=some (b,c)) (hK:∀ (a0:OA) (d e:Nat) (f:World),Ho w0 f ((cl r_0 [.bool b,.slice a0 d e] N.Hr0)::(sl a0 d e (List.map (AA .u32) c) N.Hq9)::L)→K (.pointer (some ⟨r_0,0,none⟩)) f):Aa1 P N.Hq5 #[.pointer (some ⟨r_0,0,none⟩),.pointer (some ⟨r_0,0,none⟩),.int .u64 a] w K:=by
 refine H.bI_Lsh (some ⟨r_0,0,none⟩) (some ⟨r_0,0,none⟩) a w _ ?_
 unfold Ek6
 unfold Cn7 at h
 try dsimp only
 refine Ac0 ?_
 refine ⟨_,hS.cel mp0 rfl,?_⟩
 refine Ac0 ?_
 refine ⟨_,_,_,hS.cel mp0 rfl,?_⟩
 refine Aa7 hS ?_;intro w hS
 obtain ⟨j,g,h⟩:=bnd h
 refine Ce3 H hS (qy.mono tl1) g ?_;rintro k l m w hS
 refine ⟨_,_,_,rfl,?_⟩
 refine ⟨(hS.cel mp1 rfl),?_⟩
 refine Aa7 hS ?_;intro w hS
 obtain ⟨n,i,h⟩:=bnd h
 replace hS:=ro1 hS
 obtain rfl:=Aa0 i
 refine Ba9 H hS (Ent.sl mp1) ?_;intro w hS
 refine ⟨_,rfl,?_⟩
 refine Aa7 hS ?_;intro w hS
 cases Aa0 h
 exact hK _ _ _ _ hS
theorem Bl5 {a u0} (hS:Ho w0 w L)  (h:Au2 a=some u0) (hK:∀ (a0:OA) (b c:Nat) (d:World),Ho w0 d ((sl a0 b c (List.map (AA .u32) u0) N.Hq9)::L)→K (.slice a0 b c) d):Aa1 P N.Ho6 #[.int .u64 a] w K:=by
 refine H.bn_words a w _ ?_
 unfold Dg8
 unfold Au2 at h
 try dsimp only
 refine ⟨by decide,?_⟩
 obtain ⟨e,f,h⟩:=bnd h
 obtain rfl:([(u32.wrap a),(u32.wrap (a.fdiv (2^(min (32:Int).toNat u64.bits))))]:List Int)=e:=Aa0 f
 refine Ba4 (ks:=[(u32.wrap a),(u32.wrap (a.fdiv (2^(min (32:Int).toNat u64.bits))))]) (enc:=(AA .u32)) (m:=2) hS rfl rfl ?_;intro j w hS
 obtain ⟨k,g,h⟩:=bnd h
 refine Aj7 H hS (Ent.sl mp0) g ?_;rintro w hS
 refine ⟨_,_,_,rfl,?_⟩
 obtain ⟨l,i,h⟩:=bnd h
 obtain ⟨rfl,bk,bm,ze⟩:=Dm9 i
 have bo:=((Ent.sl mp0).nw hS).hiCap ze
 replace hS:=Ho.cut hS ze
 cases Aa0 h
 exact hK _ _ _ _ hS
theorem Cc9 {r_0} {b_0 s_0:Value} {a b c} (hS:Ho w0 w ((cl r_0 [b_0,s_0] N.Hr0)::L))  (h:Ay9 a=some (b,c)) (hK:∀ (a0:OA) (d e:Nat) (f:World),Ho w0 f ((cl r_0 [.bool b,.slice a0 d e] N.Hr0)::(sl a0 d e (List.map (AA .u32) c) N.Hq9)::L)→K (.pointer (some ⟨r_0,0,none⟩)) f):Aa1 P N.Hi5 #[.pointer (some ⟨r_0,0,none⟩),.int .u64 a] w K:=by
 refine H.bI_SetUint64 (some ⟨r_0,0,none⟩) a w _ ?_
 unfold Bs9
 unfold Ay9 at h
 try dsimp only
 obtain ⟨j,g,h⟩:=bnd h
 refine Bl5 H hS  g ?_;rintro k l m w hS
 refine ⟨_,_,_,rfl,?_⟩
 obtain ⟨n,i,h⟩:=bnd h
 replace hS:=ro1 hS
 obtain rfl:=Aa0 i
 refine Ba9 H hS (Ent.sl mp1) ?_;intro w hS
 refine ⟨_,rfl,?_⟩
 cases Aa0 h
 exact hK _ _ _ _ hS
theorem Bj8 {r_0 qd qb qe qg l0_1 a u0} (hS:Ho w0 w L) (i:Ent L (cl r_0 [.bool qd,.slice qb qe qg] N.Hr0).A) (qr:EW L l0_1 qb qe qg) (h:Be6 qd l0_1 a=some u0) (hK:∀ (a0:OA) (j k:Nat) (l:World),Ho w0 l ((sl a0 j k (List.map (AA .u32) u0) N.Hq9)::L)→K (.slice a0 j k) l):Aa1 P N.Hr3 #[.pointer (some ⟨r_0,0,none⟩),.int .i64 a] w K:=by
 refine H.bI_low (some ⟨r_0,0,none⟩) a w _ ?_
 unfold Eq8
 unfold Be6 at h
 try dsimp only
 obtain ⟨t1,u,h⟩:=bnd h
 obtain ⟨rfl,m⟩:=mkE u
 refine Ew9 (enc:=(AA .u32)) hS m rfl ?_;clear hS m;intro b w hS
 refine Ac0 ?_
 refine ⟨_,_,_,(i.cel tl1 hS rfl),?_⟩
 obtain ⟨t2,v,h⟩:=bnd h
 obtain rfl:=Aa0 v
 refine Gn0 hS ((qr.mono tl1).nw hS) (fun _=>rfl) ?_;intro w hS
 refine Ac0 ?_
 refine ⟨_,(i.cel tl1 hS rfl),?_⟩
 obtain ⟨x,n,y⟩:=bnd h
 refine Aa9 (fun s w=>∃ (c:List Int),c=x∧s=(())∧Ho w0 w ((sl (some ⟨b,0,none⟩) ((a).toNat) ((a).toNat) (List.map (AA .u32) c) N.Hq9)::L)) (fun J2 hJ2=>?_) ?_
 ·
  have h:=n
  refine Aa4 h ?_ ?_<;>intro hc h
  ·
   obtain ⟨z,o,c3⟩:=bnd h
   refine Aa9 (fun s w=>∃ (d:List Int),d=z∧s=(())∧Ho w0 w ((sl (some ⟨b,0,none⟩) ((a).toNat) ((a).toNat) (List.map (AA .u32) d) N.Hq9)::L)) (fun J3 hJ3=>?_) ?_
   ·
    have h:=o
    refine Ab4 (fun s w t=>∃ (e:Int) (f:Int) (g:List Int),(e,f,g)=t∧s=(e,f,())∧Ho w0 w ((sl (some ⟨b,0,none⟩) ((a).toNat) ((a).toNat) (List.map (AA .u32) g) N.Hq9)::L)) ?_ h ⟨_,_,_,rfl,rfl,hS⟩
    clear h hS
    rintro s w t X q ⟨e,f,g,rfl,rfl,hS⟩ h hX hO
    unfold Cw6 at h
    try dsimp only
    refine Aa4 h ?_ ?_<;>intro hc h
    ·
     obtain ⟨t8,aa,h⟩:=bnd h
     obtain ⟨p,vx,ab⟩:=atE aa
     refine Av1 ((Ent.sl mp0).nw hS) p vx ab ?_
     refine ⟨_,Ab8 ((Ent.sl mp0).nw hS) rfl p,?_⟩
     obtain ⟨t9,ac,h⟩:=bnd h
     obtain ⟨ad,ya,r⟩:=atE ac
     refine Av1 ((Ent.sl mp0).nw hS) ad ya r ?_
     obtain ⟨af,ae,h⟩:=bnd h
     obtain rfl:=Aa0 ae
     refine Aw7 hS rfl r ?_;intro w hS
     refine ⟨by decide,?_⟩
     obtain rfl:=Aa0 h
     exact hX _ rfl _ _ ⟨_,_,_,rfl,rfl,hS⟩
    obtain rfl:=Aa0 h
    have h:=congrArg some (hO _ rfl)
    exact hJ3 _ _ ⟨_,Aa0 h,rfl,hS⟩
   clear o hS
   rintro s w ⟨d,rfl,rfl,hS⟩
   have h:=c3
   try dsimp only
   exact hJ2 _ _ ⟨_,Aa0 h,rfl,hS⟩
  exact hJ2 _ _ ⟨_,Aa0 h,rfl,hS⟩
 clear n hS
 rintro s w ⟨c,rfl,rfl,hS⟩
 have h:=y
 try dsimp only
 cases Aa0 h
 exact hK _ _ _ _ hS
theorem Df0 {r_0} {b_0 s_0:Value} {a qu vf b i j} (hS:Ho w0 w ((cl r_0 [b_0,s_0] N.Hr0)::(sl a qu vf (List.map (AA .u32) b) N.Hq9)::L))  (h:Ce1 b=some (i,j)) (hK:∀ (a0:OA) (k l:Nat) (m:World),Ho w0 m ((cl r_0 [.bool i,.slice a0 k l] N.Hr0)::(sl a0 k l (List.map (AA .u32) j) N.Hq9)::L)→K (.pointer (some ⟨r_0,0,none⟩)) m):Aa1 P N.Hs5 #[.pointer (some ⟨r_0,0,none⟩),.slice a qu vf] w K:=by
 refine H.bI_of (some ⟨r_0,0,none⟩) a qu vf w _ ?_
 unfold Fl7
 unfold Ce1 at h
 try dsimp only
 obtain ⟨v,n,x⟩:=bnd h
 refine Aa9 (fun s w=>∃ (c:Bool),c=v∧s=(c,())∧Ho w0 w ((cl r_0 [b_0,s_0] N.Hr0)::(sl a qu vf (List.map (AA .u32) b) N.Hq9)::L)) (fun J1 hJ1=>?_) ?_
 ·
  have h:=n
  obtain ⟨t2,y,h⟩:=bnd h
  obtain rfl:=Ai1 y ((Ent.sl mp1).nw hS)
  refine Aa4 h ?_ ?_<;>intro hc h
  ·
   obtain ⟨t3,z,h⟩:=bnd h
   obtain rfl:=Ai1 z ((Ent.sl mp1).nw hS)
   obtain ⟨t4,aa,h⟩:=bnd h
   obtain ⟨o,vo,ab⟩:=atE aa
   refine Ad6 ((Ent.sl mp1).nw hS) o vo ab ?_;intro b3 ac
   refine ⟨_,Ab8 ((Ent.sl mp1).nw hS) ac o,?_⟩
   refine ⟨by decide,?_⟩
   exact hJ1 _ _ ⟨_,Aa0 h,rfl,hS⟩
  exact hJ1 _ _ ⟨_,Aa0 h,rfl,hS⟩
 clear n hS
 rintro s w ⟨c,rfl,rfl,hS⟩
 have h:=x
 try dsimp only
 refine Aa4 h ?_ ?_<;>intro hc h
 ·
  obtain ⟨o4,p,c4⟩:=bnd h
  refine Aa9 (fun s w=>∃ (d:List Int),d=o4∧s=(())∧Ho w0 w ((cl r_0 [b_0,s_0] N.Hr0)::(sl a qu vf (List.map (AA .u32) d) N.Hq9)::L)) (fun J4 hJ4=>?_) ?_
  ·
   have h:=p
   refine Ab4 (fun s w t=>∃ (e:Int) (f:Int) (g:List Int),(e,f,g)=t∧s=(e,f,())∧Ho w0 w ((cl r_0 [b_0,s_0] N.Hr0)::(sl a qu vf (List.map (AA .u32) g) N.Hq9)::L)) ?_ h ⟨_,_,_,rfl,rfl,hS⟩
   clear h hS
   rintro s w t X q ⟨e,f,g,rfl,rfl,hS⟩ h hX hO
   unfold Df6 at h
   try dsimp only
   obtain ⟨t9,ad,h⟩:=bnd h
   obtain rfl:=Ai1 ad ((Ent.sl mp1).nw hS)
   refine Aa4 h ?_ ?_<;>intro hc h
   ·
    obtain ⟨ar,ae,h⟩:=bnd h
    obtain ⟨r,vw,af⟩:=atE ae
    refine Ad6 ((Ent.sl mp1).nw hS) r vw af ?_;intro b6 ag
    refine ⟨_,Ab8 ((Ent.sl mp1).nw hS) ag r,?_⟩
    obtain ⟨au,ah,h⟩:=bnd h
    obtain ⟨ai,yd,u⟩:=atE ah
    refine Ad6 ((Ent.sl mp1).nw hS) ai yd u ?_;intro b8 aj
    replace hS:=ro1 hS
    obtain ⟨av,ak,h⟩:=bnd h
    obtain rfl:=Aa0 ak
    refine Aw7 hS aj u ?_;intro w hS
    refine ⟨by decide,?_⟩
    obtain rfl:=Aa0 h
    exact hX _ rfl _ _ ⟨_,_,_,rfl,rfl,(hS.pick (A:=[_,_]) [1,0] rfl)⟩
   obtain rfl:=Aa0 h
   have h:=congrArg some (hO _ rfl)
   exact hJ4 _ _ ⟨_,Aa0 h,rfl,hS⟩
  clear p hS
  rintro s w ⟨d,rfl,rfl,hS⟩
  have h:=c4
  try dsimp only
  obtain ⟨aw,al,h⟩:=bnd h
  refine Aj7 H hS (Ent.sl mp1) al ?_;rintro w hS
  refine ⟨_,_,_,rfl,?_⟩
  obtain ⟨ax,am,h⟩:=bnd h
  obtain ⟨rfl,zl,jp,yi⟩:=Dm9 am
  have zm:=((Ent.sl mp1).nw hS).hiCap yi
  obtain ⟨ay,an,h⟩:=bnd h
  obtain rfl:=Aa0 an
  refine Ba9 H hS (Ent.upto (Ent.sl mp1) jp yi) ?_;intro w hS
  refine ⟨_,rfl,?_⟩
  replace hS:=ro1 hS
  replace hS:=Ho.cut hS yi
  cases Aa0 h
  exact hK _ _ _ _ (hS.pick (A:=[_,_]) [1,0] rfl)
 obtain ⟨az,ao,h⟩:=bnd h
 refine Aj7 H hS (Ent.sl mp1) ao ?_;rintro w hS
 refine ⟨_,_,_,rfl,?_⟩
 obtain ⟨a1,ap,h⟩:=bnd h
 obtain ⟨rfl,zn,jq,yl⟩:=Dm9 ap
 have zo:=((Ent.sl mp1).nw hS).hiCap yl
 obtain ⟨a2,aq,h⟩:=bnd h
 obtain rfl:=Aa0 aq
 refine Ba9 H hS (Ent.upto (Ent.sl mp1) jq yl) ?_;intro w hS
 refine ⟨_,rfl,?_⟩
 replace hS:=ro1 hS
 replace hS:=Ho.cut hS yl
 cases Aa0 h
 exact hK _ _ _ _ (hS.pick (A:=[_,_]) [1,0] rfl)
theorem Ds2 {r_0 qt qs qo qp l1_1 r_2 vq vt vh vj d e f} (hS:Ho w0 w ((cl r_0 [.bool qt,.slice qs qo qp] N.Hr0)::L)) (qy:EW L l1_1 qs qo qp) (g:Ent L (cl r_2 [.bool vq,.slice vt vh vj] N.Hr0).A) (vp:EW L d vt vh vj) (h:Dn3 qt l1_1 vq d=some (e,f)) (hK:∀ (a0:OA) (i j:Nat) (k:World),Ho w0 k ((cl r_0 [.bool e,.slice a0 i j] N.Hr0)::(sl a0 i j (List.map (AA .u32) f) N.Hq9)::L)→K (.pointer (some ⟨r_0,0,none⟩)) k):Aa1 P N.Hs6 #[.pointer (some ⟨r_0,0,none⟩),.pointer (some ⟨r_0,0,none⟩),.pointer (some ⟨r_2,0,none⟩)] w K:=by
 refine H.bI_Or (some ⟨r_0,0,none⟩) (some ⟨r_0,0,none⟩) (some ⟨r_2,0,none⟩) w _ ?_
 unfold Fg6
 unfold Dn3 at h
 try dsimp only
 refine Ac0 ?_
 refine ⟨_,_,_,hS.cel mp0 rfl,?_⟩
 obtain ⟨t1,x,h⟩:=bnd h
 obtain rfl:=Ai1 x ((qy.mono tl1).nw hS)
 refine Ac0 ?_
 refine ⟨_,_,_,(g.cel tl1 hS rfl),?_⟩
 obtain ⟨t2,y,h⟩:=bnd h
 obtain rfl:=Ai1 y ((vp.mono tl1).nw hS)
 refine Aa7 hS ?_;intro w hS
 obtain ⟨t3,z,h⟩:=bnd h
 refine Bj8 H hS (Ent.of mp0) (qy.mono tl1) z ?_;rintro l m n w hS
 refine ⟨_,_,_,rfl,?_⟩
 obtain ⟨t4,aa,h⟩:=bnd h
 refine Bj8 H hS (g.mono tl2) (vp.mono tl2) aa ?_;rintro a2 m2 c2 w hS
 refine ⟨_,_,_,rfl,?_⟩
 obtain ⟨o3,o,c3⟩:=bnd h
 refine Aa9 (fun s w=>∃ (a:List Int),a=o3∧s=(())∧Ho w0 w ((sl l m n (List.map (AA .u32) a) N.Hq9)::(cl r_0 [.bool qt,.slice qs qo qp] N.Hr0)::L)) (fun J3 hJ3=>?_) ?_
 ·
  have h:=o
  refine Ab4 (fun s w t=>∃ (b:Int) (c:List Int),(b,c)=t∧s=(b,())∧Ho w0 w ((sl a2 m2 c2 (List.map (AA .u32) t4) N.Hq9)::(sl l m n (List.map (AA .u32) c) N.Hq9)::(cl r_0 [.bool qt,.slice qs qo qp] N.Hr0)::L)) ?_ h ⟨_,_,rfl,rfl,hS⟩
  clear h hS
  rintro s w t X q ⟨b,c,rfl,rfl,hS⟩ h hX hO
  unfold Bg8 at h
  try dsimp only
  refine Aa4 h ?_ ?_<;>intro hc h
  ·
   obtain ⟨t8,ab,h⟩:=bnd h
   obtain ⟨p,vx,ac⟩:=atE ab
   refine Ad6 ((Ent.sl mp1).nw hS) p vx ac ?_;intro b5 ad
   refine ⟨_,Ab8 ((Ent.sl mp1).nw hS) ad p,?_⟩
   obtain ⟨t9,ae,h⟩:=bnd h
   obtain ⟨r,ya,af⟩:=atE ae
   refine Ad6 ((Ent.sl mp0).nw hS) r ya af ?_;intro b7 ag
   refine ⟨_,Ab8 ((Ent.sl mp0).nw hS) ag r,?_⟩
   obtain ⟨al,ah,h⟩:=bnd h
   obtain ⟨ai,vz,u⟩:=atE ah
   refine Ad6 ((Ent.sl mp1).nw hS) ai vz u ?_;intro b9 aj
   refine Aa7 hS ?_;intro w hS
   replace hS:=ro1 hS
   obtain ⟨am,ak,h⟩:=bnd h
   obtain rfl:=Aa0 ak
   refine Aw7 hS aj u ?_;intro w hS
   refine Aa7 hS ?_;intro w hS
   obtain rfl:=Aa0 h
   exact hX _ rfl _ _ ⟨_,_,rfl,rfl,(hS.pick (A:=[_,_,_]) [1,0,0] rfl)⟩
  obtain rfl:=Aa0 h
  have h:=congrArg some (hO _ rfl)
  obtain rfl:=Aa0 h
  exact hJ3 _ _ ⟨_,rfl,rfl,(hS.pick (A:=[_,_,_]) [1,1] rfl)⟩
 clear o hS
 rintro s w ⟨a,rfl,rfl,hS⟩
 have h:=c3
 try dsimp only
 replace hS:=ro1 hS
 obtain ⟨⟨an,ao⟩,v,h⟩:=bnd h
 refine Df0 H hS v ?_;clear hS v;rintro ap aq ar w hS
 refine ⟨_,rfl,?_⟩
 cases Aa0 h
 exact hK _ _ _ _ hS
theorem Ce9 {a qj qq l0 u0} (hS:Ho w0 w L) (qx:EW L l0 a qj qq) (h:Bc4 l0=some u0) (hK:∀ (a0:OA) (b c:Nat) (d:World),Ho w0 d ((sl a0 b c (List.map (AA .u32) u0) N.Hq9)::L)→K (.slice a0 b c) d):Aa1 P N.Hp1 #[.slice a qj qq] w K:=by
 refine H.bn_twin a qj qq w _ ?_
 unfold Dr9
 unfold Bc4 at h
 try dsimp only
 obtain ⟨g,f,h⟩:=bnd h
 obtain ⟨rfl,e⟩:=Eq9 f
 replace hS:=hS.none (α:=Int) (enc:=(AA .u32)) (t:=N.Hq9)
 refine Bv8 hS e ((qx.mono tl1).nw hS) (fun _=>rfl) rfl ?_;clear hS e;intro i j w hS
 cases Aa0 h
 exact hK _ _ _ _ hS
theorem Ds7 {r_0 qt qs qo qp l1_1 a b} (hS:Ho w0 w ((cl r_0 [.bool qt,.slice qs qo qp] N.Hr0)::L)) (qy:EW L l1_1 qs qo qp) (h:Co3 qt l1_1=some (a,b)) (hK:∀ (a0:OA) (c d:Nat) (e:World),Ho w0 e ((cl r_0 [.bool a,.slice a0 c d] N.Hr0)::(sl a0 c d (List.map (AA .u32) b) N.Hq9)::L)→K (.pointer (some ⟨r_0,0,none⟩)) e):Aa1 P N.Hq8 #[.pointer (some ⟨r_0,0,none⟩),.pointer (some ⟨r_0,0,none⟩)] w K:=by
 refine H.bI_Neg (some ⟨r_0,0,none⟩) (some ⟨r_0,0,none⟩) w _ ?_
 unfold En5
 unfold Co3 at h
 try dsimp only
 refine Ac0 ?_
 refine ⟨_,hS.cel mp0 rfl,?_⟩
 refine Ac0 ?_
 refine ⟨_,_,_,hS.cel mp0 rfl,?_⟩
 refine Aa7 hS ?_;intro w hS
 obtain ⟨i,f,h⟩:=bnd h
 refine Ce9 H hS (qy.mono tl1) f ?_;rintro j k l w hS
 refine ⟨_,_,_,rfl,?_⟩
 refine ⟨(hS.cel mp1 rfl),?_⟩
 refine Aa7 hS ?_;intro w hS
 obtain ⟨m,g,h⟩:=bnd h
 replace hS:=ro1 hS
 obtain rfl:=Aa0 g
 refine Ba9 H hS (Ent.sl mp1) ?_;intro w hS
 refine ⟨_,rfl,?_⟩
 refine Aa7 hS ?_;intro w hS
 cases Aa0 h
 exact hK _ _ _ _ hS
theorem Cw3 {a qj qq l0 b qu vf e u0} (hS:Ho w0 w L) (qx:EW L l0 a qj qq) (vg:EW L e b qu vf) (h:Bk1 l0 e=some u0) (hK:∀ f,Ho w0 f L→K (.int .i64 u0) f):Aa1 P N.Hr8 #[.slice a qj qq,.slice b qu vf] w K:=by
 refine H.bn_cmp a qj qq b qu vf w _ ?_
 unfold Eo7
 unfold Bk1 at h
 try dsimp only
 obtain ⟨t1,m,h⟩:=bnd h
 obtain rfl:=Ai1 m (qx.nw hS)
 obtain ⟨t2,n,h⟩:=bnd h
 obtain rfl:=Ai1 n (vg.nw hS)
 refine Aa4 h ?_ ?_<;>intro hc h
 ·
  obtain ⟨t3,o,h⟩:=bnd h
  obtain rfl:=Ai1 o (qx.nw hS)
  obtain ⟨t4,p,h⟩:=bnd h
  obtain rfl:=Ai1 p (vg.nw hS)
  refine Aa4 h ?_ ?_<;>intro hc h
  ·
   cases Aa0 h
   exact hK _ hS
  cases Aa0 h
  exact hK _ hS
 obtain ⟨t5,r,h⟩:=bnd h
 obtain rfl:=Ai1 r (qx.nw hS)
 obtain ⟨u,g,c⟩:=bnd h
 refine Aa9 (fun s w =>  .inl ()=u∧s=(())∧Ho w0 w L) (fun J1 hJ1=>?_) ?_
 ·
  have h:=g
  refine Ab4 (fun s w t=>∃ (d:Int),d=t∧s=(d,())∧Ho w0 w L) ?_ h ⟨_,rfl,rfl,hS⟩
  clear h hS
  rintro s w t X q ⟨d,rfl,rfl,hS⟩ h hX hO
  unfold Ar0 at h
  try dsimp only
  refine Aa4 h ?_ ?_<;>intro hc h
  ·
   obtain ⟨t7,v,h⟩:=bnd h
   obtain ⟨i,vo,x⟩:=atE v
   refine Ad6 (qx.nw hS) i vo x ?_;intro b3 y
   refine ⟨_,Ab8 (qx.nw hS) y i,?_⟩
   obtain ⟨t8,z,h⟩:=bnd h
   obtain ⟨j,vx,aa⟩:=atE z
   refine Ad6 (vg.nw hS) j vx aa ?_;intro b5 ab
   refine ⟨_,Ab8 (vg.nw hS) ab j,?_⟩
   refine Aa7 hS ?_;intro w hS
   refine Aa4 h ?_ ?_<;>intro hc h
   ·
    obtain ⟨t9,ac,h⟩:=bnd h
    obtain ⟨k,ya,ad⟩:=atE ac
    refine Ad6 (qx.nw hS) k ya ad ?_;intro b7 ae
    refine ⟨_,Ab8 (qx.nw hS) ae k,?_⟩
    obtain ⟨ai,af,h⟩:=bnd h
    obtain ⟨l,vz,ag⟩:=atE af
    refine Ad6 (vg.nw hS) l vz ag ?_;intro b9 ah
    refine ⟨_,Ab8 (vg.nw hS) ah l,?_⟩
    refine Aa7 hS ?_;intro w hS
    refine Aa4 h ?_ ?_<;>intro hc h
    ·
     obtain rfl:=Aa0 h
     have h:=congrArg some (hO _ rfl)
     obtain rfl:=Aa0 h
     have h:=c
     cases Aa0 h
     exact hK _ hS
    obtain rfl:=Aa0 h
    have h:=congrArg some (hO _ rfl)
    obtain rfl:=Aa0 h
    have h:=c
    cases Aa0 h
    exact hK _ hS
   obtain rfl:=Aa0 h
   exact hX _ rfl _ _ ⟨_,rfl,rfl,hS⟩
  obtain rfl:=Aa0 h
  have h:=congrArg some (hO _ rfl)
  exact hJ1 _ _ ⟨Aa0 h,rfl,hS⟩
 clear g hS
 rintro s w ⟨rfl,rfl,hS⟩
 have h:=c
 try dsimp only
 cases Aa0 h
 exact hK _ hS
theorem Eb2 {r_0 qd qb qe qg l0_1 r_1 qt qs qo qp l1_1 u0} (hS:Ho w0 w L) (a:Ent L (cl r_0 [.bool qd,.slice qb qe qg] N.Hr0).A) (qr:EW L l0_1 qb qe qg) (b:Ent L (cl r_1 [.bool qt,.slice qs qo qp] N.Hr0).A) (qy:EW L l1_1 qs qo qp) (h:Co1 qd l0_1 qt l1_1=some u0) (hK:∀ c,Ho w0 c L→K (.int .i64 u0) c):Aa1 P N.Hr4 #[.pointer (some ⟨r_0,0,none⟩),.pointer (some ⟨r_1,0,none⟩)] w K:=by
 refine H.bI_Cmp (some ⟨r_0,0,none⟩) (some ⟨r_1,0,none⟩) w _ ?_
 unfold En7
 unfold Co1 at h
 try dsimp only
 refine Ac0 ?_
 refine ⟨_,(a.cel (fun _ h=>h) hS rfl),?_⟩
 refine Ac0 ?_
 refine ⟨_,(b.cel (fun _ h=>h) hS rfl),?_⟩
 refine Aa7 hS ?_;intro w hS
 refine Aa4 h ?_ ?_<;>intro hc h
 ·
  refine Ac0 ?_
  refine ⟨_,(a.cel (fun _ h=>h) hS rfl),?_⟩
  refine Aa4 h ?_ ?_<;>intro hc h
  ·
   cases Aa0 h
   exact hK _ hS
  cases Aa0 h
  exact hK _ hS
 refine Ac0 ?_
 refine ⟨_,_,_,(a.cel (fun _ h=>h) hS rfl),?_⟩
 refine Ac0 ?_
 refine ⟨_,_,_,(b.cel (fun _ h=>h) hS rfl),?_⟩
 refine Aa7 hS ?_;intro w hS
 obtain ⟨e,d,h⟩:=bnd h
 refine Cw3 H hS qr qy d ?_;rintro w hS
 refine ⟨_,rfl,?_⟩
 refine Aa7 hS ?_;intro w hS
 refine Ac0 ?_
 refine ⟨_,(a.cel (fun _ h=>h) hS rfl),?_⟩
 refine Aa4 h ?_ ?_<;>intro hc h
 ·
  cases Aa0 h
  exact hK _ hS
 cases Aa0 h
 exact hK _ hS
theorem Cq9 {f qj qq l0 g qu vf l1 u0} (hS:Ho w0 w L) (qx:EW L l0 f qj qq) (vg:EW L l1 g qu vf) (h:Br2 l0 l1=some u0) (hK:∀ (a0:OA) (n0 c0:Nat) (w1:World),Ho w0 w1 ((sl a0 n0 c0 (List.map (AA .u32) u0) N.Hq9)::L)→K (.slice a0 n0 c0) w1):Aa1 P N.Hq1 #[.slice f qj qq,.slice g qu vf] w K:=by
 refine H.bn_add f qj qq g qu vf w _ ?_
 unfold En9
 unfold Br2 at h
 try dsimp only
 obtain ⟨t1,ai,h⟩:=bnd h
 obtain rfl:=Ai1 ai (qx.nw hS)
 obtain ⟨t2,aj,h⟩:=bnd h
 obtain rfl:=Ai1 aj (vg.nw hS)
 obtain ⟨ak,aa,al⟩:=bnd h
 refine Aa9 (fun s w=>∃ (i:OA) (a:Nat) (j:Nat) (k:List Int) (b:It) (l:OA) (m:Nat) (n:Nat) (o:List Int) (c:It),(k,o)=ak∧s=((i,a,j),(l,m,n),())∧Ent (b::L) (rdA (List.map (AA .u32) k) i a j)∧Ent (c::L) (rdA (List.map (AA .u32) o) l m n)∧Ho w0 w (b::c::L)) (fun bf hJ11=>?_) ?_
 ·
  have h:=aa
  refine Aa4 h ?_ ?_<;>intro hc h
  ·
   replace hS:=hS.voidItem
   replace hS:=hS.voidItem
   obtain rfl:=Aa0 h
   exact hJ11 _ _ ⟨_,_,_,_,_,_,_,_,_,_,rfl,rfl,(vg.mono tl1),(qx.mono tl1),(hS.pick (A:=[_,_]) [1,0] rfl)⟩
  replace hS:=hS.voidItem
  replace hS:=hS.voidItem
  obtain rfl:=Aa0 h
  exact hJ11 _ _ ⟨_,_,_,_,_,_,_,_,_,_,rfl,rfl,(qx.mono tl1),(vg.mono tl1),(hS.pick (A:=[_,_]) [1,0] rfl)⟩
 clear aa hS
 rintro s w ⟨i,a,j,k,b,l,m,n,o,c,rfl,rfl,d,p,hS⟩
 have h:=al
 try dsimp only
 obtain ⟨t5,am,h⟩:=bnd h
 obtain rfl:=Ai1 am ((d.mono (Aa5 mp0 tl2)).nw hS)
 obtain ⟨t6,an,h⟩:=bnd h
 obtain ⟨rfl,ab⟩:=mkE an
 refine Ew9 (enc:=(AA .u32)) hS ab rfl ?_;clear hS ab;intro r w hS
 obtain ⟨ao,ac,ap⟩:=bnd h
 refine Aa9 (fun s w=>∃ (u:Int) (v:List Int),(u,v)=ao∧s=(u,())∧Ho w0 w ((sl (some ⟨r,0,none⟩) (((i64.wrap ((a:Int)+1))).toNat) (((i64.wrap ((a:Int)+1))).toNat) (List.map (AA .u32) v) N.Hq9)::b::L)) (fun bh hJ13=>?_) ?_
 ·
  have h:=ac
  refine Ab4 (fun s w t=>∃ (x:Int) (y:Int) (e:List Int),(x,y,e)=t∧s=(x,y,())∧Ho w0 w ((sl (some ⟨r,0,none⟩) (((i64.wrap ((a:Int)+1))).toNat) (((i64.wrap ((a:Int)+1))).toNat) (List.map (AA .u32) e) N.Hq9)::b::c::L)) ?_ h ⟨_,_,_,rfl,rfl,hS⟩
  clear h hS
  rintro s w t X q ⟨x,y,e,rfl,rfl,hS⟩ h hX hO
  unfold At2 at h
  try dsimp only
  obtain ⟨bi,aq,h⟩:=bnd h
  obtain rfl:=Ai1 aq ((d.mono (Aa5 mp1 tl3)).nw hS)
  refine Aa4 h ?_ ?_<;>intro hc h
  ·
   obtain ⟨bj,ar,h⟩:=bnd h
   obtain ⟨ad,ym,au⟩:=atE ar
   refine Ad6 ((d.mono (Aa5 mp1 tl3)).nw hS) ad ym au ?_;intro bk av
   refine ⟨_,Ab8 ((d.mono (Aa5 mp1 tl3)).nw hS) av ad,?_⟩
   obtain ⟨bl,aw,h⟩:=bnd h
   obtain rfl:=Ai1 aw ((p.mono (Aa5 mp2 tl3)).nw hS)
   obtain ⟨ax,ae,ay⟩:=bnd h
   refine Aa9 (fun s w=>∃ (z:Int),z=ax∧s=(z,())∧Ho w0 w ((sl (some ⟨r,0,none⟩) (((i64.wrap ((a:Int)+1))).toNat) (((i64.wrap ((a:Int)+1))).toNat) (List.map (AA .u32) e) N.Hq9)::b::c::L)) (fun bm hJ16=>?_) ?_
   ·
    have h:=ae
    refine Aa4 h ?_ ?_<;>intro hc h
    ·
     obtain ⟨bo,az,h⟩:=bnd h
     obtain ⟨af,jr,a2⟩:=atE az
     refine Ad6 ((p.mono (Aa5 mp2 tl3)).nw hS) af jr a2 ?_;intro bp a3
     refine ⟨_,Ab8 ((p.mono (Aa5 mp2 tl3)).nw hS) a3 af,?_⟩
     exact hJ16 _ _ ⟨_,Aa0 h,rfl,hS⟩
    exact hJ16 _ _ ⟨_,Aa0 h,rfl,hS⟩
   clear ae hS
   rintro s w ⟨z,rfl,rfl,hS⟩
   have h:=ay
   try dsimp only
   obtain ⟨bq,a4,h⟩:=bnd h
   obtain ⟨a5,yn,ag⟩:=atE a4
   refine Av1 ((Ent.sl mp0).nw hS) a5 yn ag ?_
   obtain ⟨br,a7,h⟩:=bnd h
   obtain rfl:=Aa0 a7
   refine Aw7 hS rfl ag ?_;intro w hS
   refine ⟨by decide,?_⟩
   obtain rfl:=Aa0 h
   exact hX _ rfl _ _ ⟨_,_,_,rfl,rfl,hS⟩
  obtain rfl:=Aa0 h
  have h:=congrArg some (hO _ rfl)
  obtain rfl:=Aa0 h
  exact hJ13 _ _ ⟨_,_,rfl,rfl,(hS.pick (A:=[_,_,_]) [0,0] rfl)⟩
 clear ac hS
 rintro s w ⟨u,v,rfl,rfl,hS⟩
 have h:=ap
 try dsimp only
 obtain ⟨bs,a8,h⟩:=bnd h
 obtain rfl:=Ai1 a8 ((d.mono (Aa5 mp1 tl2)).nw hS)
 obtain ⟨bt,a9,h⟩:=bnd h
 obtain ⟨ba,yo,ah⟩:=atE a9
 refine Av1 ((Ent.sl mp0).nw hS) ba yo ah ?_
 obtain ⟨bu,bb,h⟩:=bnd h
 obtain rfl:=Aa0 bb
 refine Aw7 hS rfl ah ?_;intro w hS
 obtain ⟨bv,bc,h⟩:=bnd h
 refine Aj7 H hS (Ent.sl mp0) bc ?_;rintro w hS
 refine ⟨_,_,_,rfl,?_⟩
 obtain ⟨bw,be,h⟩:=bnd h
 obtain ⟨rfl,zp,zq,yx⟩:=Dm9 be
 have zr:=((Ent.sl mp0).nw hS).hiCap yx
 replace hS:=Ho.cut hS yx
 cases Aa0 h
 exact hK _ _ _ _ (hS.pick (A:=[_,_]) [0] rfl)
theorem Bz2 {b qj qq l0 c qu vf j u0} (hS:Ho w0 w L) (qx:EW L l0 b qj qq) (vg:EW L j c qu vf) (h:Bj9 l0 j=some u0) (hK:∀ (a0:OA) (k l:Nat) (m:World),Ho w0 m ((sl a0 k l (List.map (AA .u32) u0) N.Hq9)::L)→K (.slice a0 k l) m):Aa1 P N.Hq4 #[.slice b qj qq,.slice c qu vf] w K:=by
 refine H.bn_sub b qj qq c qu vf w _ ?_
 unfold Eq5
 unfold Bj9 at h
 try dsimp only
 obtain ⟨t1,x,h⟩:=bnd h
 obtain rfl:=Ai1 x (qx.nw hS)
 obtain ⟨t2,y,h⟩:=bnd h
 obtain ⟨rfl,n⟩:=mkE y
 refine Ew9 (enc:=(AA .u32)) hS n rfl ?_;clear hS n;intro d w hS
 obtain ⟨z,o,c2⟩:=bnd h
 refine Aa9 (fun s w=>∃ (e:List Int),e=z∧s=(())∧Ho w0 w ((sl (some ⟨d,0,none⟩) (((qj:Int)).toNat) (((qj:Int)).toNat) (List.map (AA .u32) e) N.Hq9)::L)) (fun J2 hJ2=>?_) ?_
 ·
  have h:=o
  refine Ab4 (fun s w t=>∃ (f:Int) (g:Int) (a:List Int),(f,g,a)=t∧s=(f,g,())∧Ho w0 w ((sl (some ⟨d,0,none⟩) (((qj:Int)).toNat) (((qj:Int)).toNat) (List.map (AA .u32) a) N.Hq9)::L)) ?_ h ⟨_,_,_,rfl,rfl,hS⟩
  clear h hS
  rintro s w t X q ⟨f,g,a,rfl,rfl,hS⟩ h hX hO
  unfold Ax7 at h
  try dsimp only
  obtain ⟨t7,aa,h⟩:=bnd h
  obtain rfl:=Ai1 aa ((qx.mono tl1).nw hS)
  refine Aa4 h ?_ ?_<;>intro hc h
  ·
   obtain ⟨t8,ab,h⟩:=bnd h
   obtain ⟨p,vu,ac⟩:=atE ab
   refine Ad6 ((qx.mono tl1).nw hS) p vu ac ?_;intro b4 ad
   refine ⟨_,Ab8 ((qx.mono tl1).nw hS) ad p,?_⟩
   obtain ⟨t9,ae,h⟩:=bnd h
   obtain rfl:=Ai1 ae ((vg.mono tl1).nw hS)
   obtain ⟨o5,r,c5⟩:=bnd h
   refine Aa9 (fun s w=>∃ (i:Int),i=o5∧s=(i,())∧Ho w0 w ((sl (some ⟨d,0,none⟩) (((qj:Int)).toNat) (((qj:Int)).toNat) (List.map (AA .u32) a) N.Hq9)::L)) (fun J5 hJ5=>?_) ?_
   ·
    have h:=r
    refine Aa4 h ?_ ?_<;>intro hc h
    ·
     obtain ⟨an,af,h⟩:=bnd h
     obtain ⟨u,ya,ag⟩:=atE af
     refine Ad6 ((vg.mono tl1).nw hS) u ya ag ?_;intro b7 ah
     refine ⟨_,Ab8 ((vg.mono tl1).nw hS) ah u,?_⟩
     exact hJ5 _ _ ⟨_,Aa0 h,rfl,hS⟩
    exact hJ5 _ _ ⟨_,Aa0 h,rfl,hS⟩
   clear r hS
   rintro s w ⟨i,rfl,rfl,hS⟩
   have h:=c5
   try dsimp only
   obtain ⟨ao,ai,h⟩:=bnd h
   obtain ⟨aj,vz,v⟩:=atE ai
   refine Av1 ((Ent.sl mp0).nw hS) aj vz v ?_
   obtain ⟨ap,ak,h⟩:=bnd h
   obtain rfl:=Aa0 ak
   refine Aw7 hS rfl v ?_;intro w hS
   refine ⟨by decide,?_⟩
   obtain rfl:=Aa0 h
   exact hX _ rfl _ _ ⟨_,_,_,rfl,rfl,hS⟩
  obtain rfl:=Aa0 h
  have h:=congrArg some (hO _ rfl)
  exact hJ2 _ _ ⟨_,Aa0 h,rfl,hS⟩
 clear o hS
 rintro s w ⟨e,rfl,rfl,hS⟩
 have h:=c2
 try dsimp only
 obtain ⟨aq,al,h⟩:=bnd h
 refine Aj7 H hS (Ent.sl mp0) al ?_;rintro w hS
 refine ⟨_,_,_,rfl,?_⟩
 obtain ⟨ar,am,h⟩:=bnd h
 obtain ⟨rfl,js,jt,ye⟩:=Dm9 am
 have ju:=((Ent.sl mp0).nw hS).hiCap ye
 replace hS:=Ho.cut hS ye
 cases Aa0 h
 exact hK _ _ _ _ hS
theorem Dz4 {a b qu vf g c d vu yc i u0 u1} (hS:Ho w0 w L) (vg:EW L g b qu vf) (jo:EW L i d vu yc) (h:Br0 a g c i=some (u0,u1)) (hK:∀ (e:OA) (j f:Nat) (k:World),Ho w0 k ((sl e j f (List.map (AA .u32) u1) N.Hq9)::L)→K (.tuple #[.bool u0,.slice e j f]) k):Aa1 P N.Hr5 #[.bool a,.slice b qu vf,.bool c,.slice d vu yc] w K:=by
 refine H.bn_sum a b qu vf c d vu yc w _ ?_
 unfold Ek0
 unfold Br0 at h
 try dsimp only
 refine Aa4 h ?_ ?_<;>intro hc h
 ·
  obtain ⟨p,l,h⟩:=bnd h
  refine Cq9 H hS vg jo l ?_;rintro e q f w hS
  refine ⟨_,_,_,rfl,?_⟩
  cases Aa0 h
  exact hK _ _ _ _ hS
 obtain ⟨r,m,h⟩:=bnd h
 refine Cw3 H hS vg jo m ?_;rintro w hS
 refine ⟨_,rfl,?_⟩
 refine Aa4 h ?_ ?_<;>intro hc h
 ·
  obtain ⟨s,n,h⟩:=bnd h
  refine Bz2 H hS vg jo n ?_;rintro t u v w hS
  refine ⟨_,_,_,rfl,?_⟩
  cases Aa0 h
  exact hK _ _ _ _ hS
 obtain ⟨x,o,h⟩:=bnd h
 refine Bz2 H hS jo vg o ?_;rintro y z c3 w hS
 refine ⟨_,_,_,rfl,?_⟩
 cases Aa0 h
 exact hK _ _ _ _ hS
theorem Dl3 {r_0 qt qs qo qp l1_1 r_2 vq vt vh vj a b c} (hS:Ho w0 w ((cl r_0 [.bool qt,.slice qs qo qp] N.Hr0)::L)) (qy:EW L l1_1 qs qo qp) (d:Ent L (cl r_2 [.bool vq,.slice vt vh vj] N.Hr0).A) (vp:EW L a vt vh vj) (h:Cn0 qt l1_1 vq a=some (b,c)) (hK:∀ (a0:OA) (e f:Nat) (g:World),Ho w0 g ((cl r_0 [.bool b,.slice a0 e f] N.Hr0)::(sl a0 e f (List.map (AA .u32) c) N.Hq9)::L)→K (.pointer (some ⟨r_0,0,none⟩)) g):Aa1 P N.Hq6 #[.pointer (some ⟨r_0,0,none⟩),.pointer (some ⟨r_0,0,none⟩),.pointer (some ⟨r_2,0,none⟩)] w K:=by
 refine H.bI_Sub (some ⟨r_0,0,none⟩) (some ⟨r_0,0,none⟩) (some ⟨r_2,0,none⟩) w _ ?_
 unfold Ep3
 unfold Cn0 at h
 try dsimp only
 refine Ac0 ?_
 refine ⟨_,hS.cel mp0 rfl,?_⟩
 refine Ac0 ?_
 refine ⟨_,_,_,hS.cel mp0 rfl,?_⟩
 refine Ac0 ?_
 refine ⟨_,(d.cel tl1 hS rfl),?_⟩
 refine Ac0 ?_
 refine ⟨_,_,_,(d.cel tl1 hS rfl),?_⟩
 refine Aa7 hS ?_;intro w hS
 obtain ⟨⟨k,l⟩,i,h⟩:=bnd h
 refine Dz4 H hS (qy.mono tl1) (vp.mono tl1) i ?_;clear hS i;rintro m n o w hS
 refine ⟨_,_,_,_,rfl,?_⟩
 refine Aa7 hS ?_;intro w hS
 obtain ⟨p,j,h⟩:=bnd h
 replace hS:=ro1 hS
 obtain rfl:=Aa0 j
 refine Ba9 H hS (Ent.sl mp1) ?_;intro w hS
 refine ⟨_,rfl,?_⟩
 refine Aa7 hS ?_;intro w hS
 cases Aa0 h
 exact hK _ _ _ _ hS
theorem Dv2 {r_0 qd qb qe qg l0_1 u0} (hS:Ho w0 w L) (a:Ent L (cl r_0 [.bool qd,.slice qb qe qg] N.Hr0).A) (qr:EW L l0_1 qb qe qg) (h:Bz1 qd l0_1=some u0) (hK:∀ b,Ho w0 b L→K (.int .i64 u0) b):Aa1 P N.Hp5 #[.pointer (some ⟨r_0,0,none⟩)] w K:=by
 refine H.bI_Sign (some ⟨r_0,0,none⟩) w _ ?_
 unfold Dx9
 unfold Bz1 at h
 try dsimp only
 refine Ac0 ?_
 refine ⟨_,_,_,(a.cel (fun _ h=>h) hS rfl),?_⟩
 obtain ⟨d,c,h⟩:=bnd h
 obtain rfl:=Ai1 c (qr.nw hS)
 refine Aa4 h ?_ ?_<;>intro hc h
 ·
  cases Aa0 h
  exact hK _ hS
 refine Ac0 ?_
 refine ⟨_,(a.cel (fun _ h=>h) hS rfl),?_⟩
 refine Aa4 h ?_ ?_<;>intro hc h
 ·
  cases Aa0 h
  exact hK _ hS
 cases Aa0 h
 exact hK _ hS
theorem Fe6 {a qj qq l0 b u0} (hS:Ho w0 w L) (qx:EW L l0 a qj qq) (h:Cb2 l0 b=some u0) (hK:∀ c,Ho w0 c L→K (.int .u64 u0) c):Aa1 P N.Hr7 #[.slice a qj qq,.int .i64 b] w K:=by
 refine H.bn_bit a qj qq b w _ ?_
 unfold Er0
 unfold Cb2 at h
 try dsimp only
 refine Aa4 h ?_ ?_<;>intro hc h
 ·
  refine ⟨by decide,?_⟩
  obtain ⟨k,e,h⟩:=bnd h
  obtain rfl:=Ai1 e (qx.nw hS)
  refine Aa4 h ?_ ?_<;>intro hc h
  ·
   cases Aa0 h
   exact hK _ hS
  refine ⟨by decide,?_⟩
  obtain ⟨l,f,h⟩:=bnd h
  obtain ⟨d,qu,g⟩:=atE f
  refine Ad6 (qx.nw hS) d qu g ?_;intro m i
  refine ⟨_,Ab8 (qx.nw hS) i d,?_⟩
  refine ⟨by decide,?_⟩
  obtain ⟨n,j,h⟩:=bnd h
  refine ⟨Gr2 j,?_⟩
  cases Aa0 h
  exact hK _ hS
 cases Aa0 h
 exact hK _ hS
theorem Bh1 {r_0 qd qb qe qg l0_1 u0} (hS:Ho w0 w L) (c:Ent L (cl r_0 [.bool qd,.slice qb qe qg] N.Hr0).A) (qr:EW L l0_1 qb qe qg) (h:Ak8 qd l0_1=some u0) (hK:∀ d,Ho w0 d L→K (.int .u64 u0) d):Aa1 P N.Hg4 #[.pointer (some ⟨r_0,0,none⟩)] w K:=by
 refine H.bI_TrailingZeroBits (some ⟨r_0,0,none⟩) w _ ?_
 unfold Az5
 unfold Ak8 at h
 try dsimp only
 refine Ac0 ?_
 refine ⟨_,_,_,(c.cel (fun _ h=>h) hS rfl),?_⟩
 obtain ⟨k,f,h⟩:=bnd h
 obtain rfl:=Ai1 f (qr.nw hS)
 refine Aa4 h ?_ ?_<;>intro hc h
 ·
  cases Aa0 h
  exact hK _ hS
 obtain ⟨g,e,i⟩:=bnd h
 refine Aa9 (fun s w=>∃ (a:Int),a=g∧s=(a,())∧Ho w0 w L) (fun l hJ1=>?_) ?_
 ·
  have h:=e
  refine Ab4 (fun s w t=>∃ (b:Int),b=t∧s=(b,())∧Ho w0 w L) ?_ h ⟨_,rfl,rfl,hS⟩
  clear h hS
  rintro s w t X q ⟨b,rfl,rfl,hS⟩ h hX hO
  unfold Af3 at h
  try dsimp only
  refine Ac0 ?_
  refine ⟨_,_,_,(c.cel (fun _ h=>h) hS rfl),?_⟩
  obtain ⟨m,j,h⟩:=bnd h
  refine Fe6 H hS qr j ?_;rintro w hS
  refine ⟨_,rfl,?_⟩
  refine Aa4 h ?_ ?_<;>intro hc h
  ·
   obtain rfl:=Aa0 h
   exact hX _ rfl _ _ ⟨_,rfl,rfl,hS⟩
  obtain rfl:=Aa0 h
  have h:=congrArg some (hO _ rfl)
  exact hJ1 _ _ ⟨_,Aa0 h,rfl,hS⟩
 clear e hS
 rintro s w ⟨a,rfl,rfl,hS⟩
 have h:=i
 try dsimp only
 cases Aa0 h
 exact hK _ hS
theorem Ci6 {a qj qq l0 u0} (hS:Ho w0 w L) (qx:EW L l0 a qj qq) (h:Ax9 l0=some u0) (hK:∀ e,Ho w0 e L→K (.int .i64 u0) e):Aa1 P N.Hl9 #[.slice a qj qq] w K:=by
 refine H.bn_length a qj qq w _ ?_
 unfold Co4
 unfold Ax9 at h
 try dsimp only
 obtain ⟨r,i,h⟩:=bnd h
 obtain rfl:=Ai1 i (qx.nw hS)
 refine Aa4 h ?_ ?_<;>intro hc h
 ·
  cases Aa0 h
  exact hK _ hS
 obtain ⟨u,j,h⟩:=bnd h
 obtain rfl:=Ai1 j (qx.nw hS)
 obtain ⟨v,k,h⟩:=bnd h
 obtain ⟨f,qu,l⟩:=atE k
 refine Ad6 (qx.nw hS) f qu l ?_;intro x m
 refine ⟨_,Ab8 (qx.nw hS) m f,?_⟩
 obtain ⟨n,g,o⟩:=bnd h
 refine Aa9 (fun s w=>∃ (b:Int),b=n∧s=(b,())∧Ho w0 w L) (fun y hJ3=>?_) ?_
 ·
  have h:=g
  refine Ab4 (fun s w t=>∃ (c:Int) (d:Int),(c,d)=t∧s=(c,d,())∧Ho w0 w L) ?_ h ⟨_,_,rfl,rfl,hS⟩
  clear h hS
  rintro s w t X q ⟨c,d,rfl,rfl,hS⟩ h hX hO
  unfold Ao6 at h
  try dsimp only
  refine Aa4 h ?_ ?_<;>intro hc h
  ·
   refine ⟨by decide,?_⟩
   obtain rfl:=Aa0 h
   exact hX _ rfl _ _ ⟨_,_,rfl,rfl,hS⟩
  obtain rfl:=Aa0 h
  have h:=congrArg some (hO _ rfl)
  exact hJ3 _ _ ⟨_,Aa0 h,rfl,hS⟩
 clear g hS
 rintro s w ⟨b,rfl,rfl,hS⟩
 have h:=o
 try dsimp only
 obtain ⟨z,p,h⟩:=bnd h
 obtain rfl:=Ai1 p (qx.nw hS)
 cases Aa0 h
 exact hK _ hS
theorem Db2 {r_0 qd qb qe qg l0_1 u0} (hS:Ho w0 w L) (b:Ent L (cl r_0 [.bool qd,.slice qb qe qg] N.Hr0).A) (qr:EW L l0_1 qb qe qg) (h:Bj4 qd l0_1=some u0) (hK:∀ a,Ho w0 a L→K (.int .i64 u0) a):Aa1 P N.Hm4 #[.pointer (some ⟨r_0,0,none⟩)] w K:=by
 refine H.bI_BitLen (some ⟨r_0,0,none⟩) w _ ?_
 unfold Cr1
 unfold Bj4 at h
 try dsimp only
 refine Ac0 ?_
 refine ⟨_,_,_,(b.cel (fun _ h=>h) hS rfl),?_⟩
 obtain ⟨d,c,h⟩:=bnd h
 refine Ci6 H hS qr c ?_;rintro w hS
 refine ⟨_,rfl,?_⟩
 cases Aa0 h
 exact hK _ hS
theorem Bd3 {c qj qq l0 a u0} (hS:Ho w0 w L) (qx:EW L l0 c qj qq) (h:Ar3 l0 a=some u0) (hK:∀ (a0:OA) (i j:Nat) (k:World),Ho w0 k ((sl a0 i j (List.map (AA .u32) u0) N.Hq9)::L)→K (.slice a0 i j) k):Aa1 P N.Ho3 #[.slice c qj qq,.int .u64 a] w K:=by
 refine H.bn_right c qj qq a w _ ?_
 unfold Dd6
 unfold Ar3 at h
 try dsimp only
 refine ⟨by decide,?_⟩
 refine ⟨by decide,?_⟩
 obtain ⟨t1,u,h⟩:=bnd h
 obtain rfl:=Ai1 u (qx.nw hS)
 refine Aa4 h ?_ ?_<;>intro hc h
 ·
  replace hS:=hS.none (α:=Int) (enc:=(AA .u32)) (t:=N.Hq9)
  cases Aa0 h
  exact hK _ _ _ _ hS
 obtain ⟨t2,v,h⟩:=bnd h
 obtain rfl:=Ai1 v (qx.nw hS)
 obtain ⟨t3,x,h⟩:=bnd h
 obtain ⟨rfl,l⟩:=mkE x
 refine Ew9 (enc:=(AA .u32)) hS l rfl ?_;clear hS l;intro d w hS
 obtain ⟨y,m,z⟩:=bnd h
 refine Aa9 (fun s w=>∃ (e:List Int),e=y∧s=(())∧Ho w0 w ((sl (some ⟨d,0,none⟩) (((i64.wrap ((qj:Int)-(i64.wrap (u64.wrap (a.tdiv 32)))))).toNat) (((i64.wrap ((qj:Int)-(i64.wrap (u64.wrap (a.tdiv 32)))))).toNat) (List.map (AA .u32) e) N.Hq9)::L)) (fun J2 hJ2=>?_) ?_
 ·
  have h:=m
  refine Ab4 (fun s w t=>∃ (f:Int) (b:List Int),(f,b)=t∧s=(f,())∧Ho w0 w ((sl (some ⟨d,0,none⟩) (((i64.wrap ((qj:Int)-(i64.wrap (u64.wrap (a.tdiv 32)))))).toNat) (((i64.wrap ((qj:Int)-(i64.wrap (u64.wrap (a.tdiv 32)))))).toNat) (List.map (AA .u32) b) N.Hq9)::L)) ?_ h ⟨_,_,rfl,rfl,hS⟩
  clear h hS
  rintro s w t X q ⟨f,b,rfl,rfl,hS⟩ h hX hO
  unfold Ar4 at h
  try dsimp only
  obtain ⟨t7,aa,h⟩:=bnd h
  obtain rfl:=Ai1 aa ((Ent.sl mp0).nw hS)
  refine Aa4 h ?_ ?_<;>intro hc h
  ·
   obtain ⟨t8,ab,h⟩:=bnd h
   obtain ⟨n,vu,ac⟩:=atE ab
   refine Ad6 ((qx.mono tl1).nw hS) n vu ac ?_;intro b4 ad
   refine ⟨_,Ab8 ((qx.mono tl1).nw hS) ad n,?_⟩
   obtain ⟨t9,ae,h⟩:=bnd h
   obtain rfl:=Ai1 ae ((qx.mono tl1).nw hS)
   obtain ⟨o5,o,c5⟩:=bnd h
   refine Aa9 (fun s w=>∃ (g:Int),g=o5∧s=(g,())∧Ho w0 w ((sl (some ⟨d,0,none⟩) (((i64.wrap ((qj:Int)-(i64.wrap (u64.wrap (a.tdiv 32)))))).toNat) (((i64.wrap ((qj:Int)-(i64.wrap (u64.wrap (a.tdiv 32)))))).toNat) (List.map (AA .u32) b) N.Hq9)::L)) (fun J5 hJ5=>?_) ?_
   ·
    have h:=o
    refine Aa4 h ?_ ?_<;>intro hc h
    ·
     obtain ⟨ao,af,h⟩:=bnd h
     obtain ⟨p,ya,ag⟩:=atE af
     refine Ad6 ((qx.mono tl1).nw hS) p ya ag ?_;intro b7 ah
     refine ⟨_,Ab8 ((qx.mono tl1).nw hS) ah p,?_⟩
     refine ⟨by decide,?_⟩
     exact hJ5 _ _ ⟨_,Aa0 h,rfl,hS⟩
    exact hJ5 _ _ ⟨_,Aa0 h,rfl,hS⟩
   clear o hS
   rintro s w ⟨g,rfl,rfl,hS⟩
   have h:=c5
   try dsimp only
   obtain ⟨ap,ai,h⟩:=bnd h
   refine ⟨Gr2 ai,?_⟩
   obtain ⟨aq,aj,h⟩:=bnd h
   obtain ⟨ak,vz,r⟩:=atE aj
   refine Av1 ((Ent.sl mp0).nw hS) ak vz r ?_
   obtain ⟨ar,al,h⟩:=bnd h
   obtain rfl:=Aa0 al
   refine Aw7 hS rfl r ?_;intro w hS
   obtain rfl:=Aa0 h
   exact hX _ rfl _ _ ⟨_,_,rfl,rfl,hS⟩
  obtain rfl:=Aa0 h
  have h:=congrArg some (hO _ rfl)
  exact hJ2 _ _ ⟨_,Aa0 h,rfl,hS⟩
 clear m hS
 rintro s w ⟨e,rfl,rfl,hS⟩
 have h:=z
 try dsimp only
 obtain ⟨au,am,h⟩:=bnd h
 refine Aj7 H hS (Ent.sl mp0) am ?_;rintro w hS
 refine ⟨_,_,_,rfl,?_⟩
 obtain ⟨av,an,h⟩:=bnd h
 obtain ⟨rfl,js,jt,ye⟩:=Dm9 an
 have ju:=((Ent.sl mp0).nw hS).hiCap ye
 replace hS:=Ho.cut hS ye
 cases Aa0 h
 exact hK _ _ _ _ hS
theorem Dy6 {r_0} {b_0 s_0:Value} {r_1 qt qs qo qp l1_1 a c d} (hS:Ho w0 w ((cl r_0 [b_0,s_0] N.Hr0)::L)) (b:Ent L (cl r_1 [.bool qt,.slice qs qo qp] N.Hr0).A) (qy:EW L l1_1 qs qo qp) (h:Bf7 qt l1_1 a=some (c,d)) (hK:∀ (a0:OA) (e f:Nat) (g:World),Ho w0 g ((cl r_0 [.bool c,.slice a0 e f] N.Hr0)::(sl a0 e f (List.map (AA .u32) d) N.Hq9)::L)→K (.pointer (some ⟨r_0,0,none⟩)) g):Aa1 P N.Hr1 #[.pointer (some ⟨r_0,0,none⟩),.pointer (some ⟨r_1,0,none⟩),.int .u64 a] w K:=by
 refine H.bI_Rsh (some ⟨r_0,0,none⟩) (some ⟨r_1,0,none⟩) a w _ ?_
 unfold Dk0
 unfold Bf7 at h
 try dsimp only
 refine Ac0 ?_
 refine ⟨_,(b.cel tl1 hS rfl),?_⟩
 refine Aa4 h ?_ ?_<;>intro hc h
 ·
  refine Ac0 ?_
  refine ⟨_,_,_,(b.cel tl1 hS rfl),?_⟩
  obtain ⟨i,j,h⟩:=bnd h
  obtain rfl:([1]:List Int)=i:=Aa0 j
  refine Ba4 (ks:=[1]) (enc:=(AA .u32)) (m:=1) hS rfl rfl ?_;intro t w hS
  obtain ⟨u,k,h⟩:=bnd h
  refine Bz2 H hS (qy.mono tl2) (Ent.sl mp0) k ?_;rintro v x y w hS
  refine ⟨_,_,_,rfl,?_⟩
  obtain ⟨z,l,h⟩:=bnd h
  refine Bd3 H hS (Ent.sl mp0) l ?_;rintro a3 m3 c3 w hS
  refine ⟨_,_,_,rfl,?_⟩
  obtain ⟨n,o,h⟩:=bnd h
  obtain rfl:([1]:List Int)=n:=Aa0 o
  refine Ba4 (ks:=[1]) (enc:=(AA .u32)) (m:=1) hS rfl rfl ?_;intro r4 w hS
  obtain ⟨t5,p,h⟩:=bnd h
  refine Cq9 H hS (Ent.sl mp1) (Ent.sl mp0) p ?_;rintro a5 m5 c5 w hS
  refine ⟨_,_,_,rfl,?_⟩
  obtain ⟨t6,q,h⟩:=bnd h
  replace hS:=ro5 hS
  obtain rfl:=Aa0 q
  refine Ba9 H hS (Ent.sl mp1) ?_;intro w hS
  refine ⟨_,rfl,?_⟩
  cases Aa0 h
  exact hK _ _ _ _ (hS.pick (A:=[_,_,_,_,_,_]) [0,0] rfl)
 refine Ac0 ?_
 refine ⟨_,_,_,(b.cel tl1 hS rfl),?_⟩
 obtain ⟨t7,r,h⟩:=bnd h
 refine Bd3 H hS (qy.mono tl1) r ?_;rintro a6 m6 c6 w hS
 refine ⟨_,_,_,rfl,?_⟩
 obtain ⟨t8,s,h⟩:=bnd h
 replace hS:=ro1 hS
 obtain rfl:=Aa0 s
 refine Ba9 H hS (Ent.sl mp1) ?_;intro w hS
 refine ⟨_,rfl,?_⟩
 cases Aa0 h
 exact hK _ _ _ _ hS
theorem Ci1 {r_0 qt qs qo qp l1_1 a b c} (hS:Ho w0 w ((cl r_0 [.bool qt,.slice qs qo qp] N.Hr0)::L)) (qy:EW L l1_1 qs qo qp) (h:Bf7 qt l1_1 a=some (b,c)) (hK:∀ (a0:OA) (d e:Nat) (f:World),Ho w0 f ((cl r_0 [.bool b,.slice a0 d e] N.Hr0)::(sl a0 d e (List.map (AA .u32) c) N.Hq9)::L)→K (.pointer (some ⟨r_0,0,none⟩)) f):Aa1 P N.Hr1 #[.pointer (some ⟨r_0,0,none⟩),.pointer (some ⟨r_0,0,none⟩),.int .u64 a] w K:=by
 refine H.bI_Rsh (some ⟨r_0,0,none⟩) (some ⟨r_0,0,none⟩) a w _ ?_
 unfold Dk0
 unfold Bf7 at h
 try dsimp only
 refine Ac0 ?_
 refine ⟨_,hS.cel mp0 rfl,?_⟩
 refine Aa4 h ?_ ?_<;>intro hc h
 ·
  refine Ac0 ?_
  refine ⟨_,_,_,hS.cel mp0 rfl,?_⟩
  obtain ⟨g,i,h⟩:=bnd h
  obtain rfl:([1]:List Int)=g:=Aa0 i
  refine Ba4 (ks:=[1]) (enc:=(AA .u32)) (m:=1) hS rfl rfl ?_;intro s w hS
  obtain ⟨t,j,h⟩:=bnd h
  refine Bz2 H hS (qy.mono tl2) (Ent.sl mp0) j ?_;rintro u v x w hS
  refine ⟨_,_,_,rfl,?_⟩
  obtain ⟨y,k,h⟩:=bnd h
  refine Bd3 H hS (Ent.sl mp0) k ?_;rintro z m3 c3 w hS
  refine ⟨_,_,_,rfl,?_⟩
  obtain ⟨l,n,h⟩:=bnd h
  obtain rfl:([1]:List Int)=l:=Aa0 n
  refine Ba4 (ks:=[1]) (enc:=(AA .u32)) (m:=1) hS rfl rfl ?_;intro r4 w hS
  obtain ⟨t5,o,h⟩:=bnd h
  refine Cq9 H hS (Ent.sl mp1) (Ent.sl mp0) o ?_;rintro a5 m5 c5 w hS
  refine ⟨_,_,_,rfl,?_⟩
  obtain ⟨t6,p,h⟩:=bnd h
  replace hS:=ro5 hS
  obtain rfl:=Aa0 p
  refine Ba9 H hS (Ent.sl mp1) ?_;intro w hS
  refine ⟨_,rfl,?_⟩
  cases Aa0 h
  exact hK _ _ _ _ (hS.pick (A:=[_,_,_,_,_,_]) [0,0] rfl)
 refine Ac0 ?_
 refine ⟨_,_,_,hS.cel mp0 rfl,?_⟩
 obtain ⟨t7,q,h⟩:=bnd h
 refine Bd3 H hS (qy.mono tl1) q ?_;rintro a6 m6 c6 w hS
 refine ⟨_,_,_,rfl,?_⟩
 obtain ⟨t8,r,h⟩:=bnd h
 replace hS:=ro1 hS
 obtain rfl:=Aa0 r
 refine Ba9 H hS (Ent.sl mp1) ?_;intro w hS
 refine ⟨_,rfl,?_⟩
 cases Aa0 h
 exact hK _ _ _ _ hS
theorem Cm2 {r_0} {b_0 s_0:Value} {a c d} (hS:Ho w0 w ((cl r_0 [b_0,s_0] N.Hr0)::L))  (h:Bb7 a=some (c,d)) (hK:∀ (a0:OA) (e f:Nat) (g:World),Ho w0 g ((cl r_0 [.bool c,.slice a0 e f] N.Hr0)::(sl a0 e f (List.map (AA .u32) d) N.Hq9)::L)→K (.pointer (some ⟨r_0,0,none⟩)) g):Aa1 P N.Hi7 #[.pointer (some ⟨r_0,0,none⟩),.int .i64 a] w K:=by
 refine H.bI_SetInt64 (some ⟨r_0,0,none⟩) a w _ ?_
 unfold Cb6
 unfold Bb7 at h
 try dsimp only
 obtain ⟨j,i,k⟩:=bnd h
 refine Aa9 (fun s w=>∃ (b:Int),b=j∧s=(b,())∧Ho w0 w ((cl r_0 [b_0,s_0] N.Hr0)::L)) (fun n hJ1=>?_) ?_
 ·
  have h:=i
  refine Aa4 h ?_ ?_<;>intro hc h
  ·
   exact hJ1 _ _ ⟨_,Aa0 h,rfl,hS⟩
  exact hJ1 _ _ ⟨_,Aa0 h,rfl,hS⟩
 clear i hS
 rintro s w ⟨b,rfl,rfl,hS⟩
 have h:=k
 try dsimp only
 obtain ⟨o,l,h⟩:=bnd h
 refine Bl5 H hS  l ?_;rintro p q r w hS
 refine ⟨_,_,_,rfl,?_⟩
 obtain ⟨t,m,h⟩:=bnd h
 replace hS:=ro1 hS
 obtain rfl:=Aa0 m
 refine Ba9 H hS (Ent.sl mp1) ?_;intro w hS
 refine ⟨_,rfl,?_⟩
 cases Aa0 h
 exact hK _ _ _ _ hS
theorem Dk2 {r_0 qt qs qo qp l1_1 r_2 vq vt vh vj a b c} (hS:Ho w0 w ((cl r_0 [.bool qt,.slice qs qo qp] N.Hr0)::L)) (qy:EW L l1_1 qs qo qp) (d:Ent L (cl r_2 [.bool vq,.slice vt vh vj] N.Hr0).A) (vp:EW L a vt vh vj) (h:Cn5 qt l1_1 vq a=some (b,c)) (hK:∀ (a0:OA) (e f:Nat) (g:World),Ho w0 g ((cl r_0 [.bool b,.slice a0 e f] N.Hr0)::(sl a0 e f (List.map (AA .u32) c) N.Hq9)::L)→K (.pointer (some ⟨r_0,0,none⟩)) g):Aa1 P N.Hq0 #[.pointer (some ⟨r_0,0,none⟩),.pointer (some ⟨r_0,0,none⟩),.pointer (some ⟨r_2,0,none⟩)] w K:=by
 refine H.bI_Add (some ⟨r_0,0,none⟩) (some ⟨r_0,0,none⟩) (some ⟨r_2,0,none⟩) w _ ?_
 unfold Ek7
 unfold Cn5 at h
 try dsimp only
 refine Ac0 ?_
 refine ⟨_,hS.cel mp0 rfl,?_⟩
 refine Ac0 ?_
 refine ⟨_,_,_,hS.cel mp0 rfl,?_⟩
 refine Ac0 ?_
 refine ⟨_,(d.cel tl1 hS rfl),?_⟩
 refine Ac0 ?_
 refine ⟨_,_,_,(d.cel tl1 hS rfl),?_⟩
 refine Aa7 hS ?_;intro w hS
 obtain ⟨⟨k,l⟩,i,h⟩:=bnd h
 refine Dz4 H hS (qy.mono tl1) (vp.mono tl1) i ?_;clear hS i;rintro m n o w hS
 refine ⟨_,_,_,_,rfl,?_⟩
 refine Aa7 hS ?_;intro w hS
 obtain ⟨p,j,h⟩:=bnd h
 replace hS:=ro1 hS
 obtain rfl:=Aa0 j
 refine Ba9 H hS (Ent.sl mp1) ?_;intro w hS
 refine ⟨_,rfl,?_⟩
 refine Aa7 hS ?_;intro w hS
 cases Aa0 h
 exact hK _ _ _ _ hS
theorem Fa9 {b qj qq l0 c qu vf n u0} (hS:Ho w0 w L) (qx:EW L l0 b qj qq) (vg:EW L n c qu vf) (h:By2 l0 n=some u0) (hK:∀ (a0:OA) (o p:Nat) (r:World),Ho w0 r ((sl a0 o p (List.map (AA .u32) u0) N.Hq9)::L)→K (.slice a0 o p) r):Aa1 P N.Hq2 #[.slice b qj qq,.slice c qu vf] w K:=by
 refine H.bn_mul b qj qq c qu vf w _ ?_
 unfold Ep4
 unfold By2 at h
 try dsimp only
 obtain ⟨o1,u,c1⟩:=bnd h
 refine Aa9 (fun s w=>∃ (d:Bool),d=o1∧s=(d,())∧Ho w0 w L) (fun J1 hJ1=>?_) ?_
 ·
  have h:=u
  obtain ⟨t2,ae,h⟩:=bnd h
  obtain rfl:=Ai1 ae (qx.nw hS)
  refine Aa4 h ?_ ?_<;>intro hc h
  ·
   obtain ⟨t3,af,h⟩:=bnd h
   obtain rfl:=Ai1 af (vg.nw hS)
   exact hJ1 _ _ ⟨_,Aa0 h,rfl,hS⟩
  exact hJ1 _ _ ⟨_,Aa0 h,rfl,hS⟩
 clear u hS
 rintro s w ⟨d,rfl,rfl,hS⟩
 have h:=c1
 try dsimp only
 refine Aa4 h ?_ ?_<;>intro hc h
 ·
  replace hS:=hS.none (α:=Int) (enc:=(AA .u32)) (t:=N.Hq9)
  cases Aa0 h
  exact hK _ _ _ _ hS
 obtain ⟨t4,ag,h⟩:=bnd h
 obtain rfl:=Ai1 ag (qx.nw hS)
 obtain ⟨t5,ah,h⟩:=bnd h
 obtain rfl:=Ai1 ah (vg.nw hS)
 obtain ⟨t6,ai,h⟩:=bnd h
 obtain ⟨rfl,v⟩:=mkE ai
 refine Ew9 (enc:=(AA .u32)) hS v rfl ?_;clear hS v;intro a w hS
 obtain ⟨o3,x,c3⟩:=bnd h
 refine Aa9 (fun s w=>∃ (e:List Int),e=o3∧s=(())∧Ho w0 w ((sl (some ⟨a,0,none⟩) (((i64.wrap ((qj:Int)+(qu:Int)))).toNat) (((i64.wrap ((qj:Int)+(qu:Int)))).toNat) (List.map (AA .u32) e) N.Hq9)::L)) (fun J3 hJ3=>?_) ?_
 ·
  have h:=x
  refine Ab4 (fun s w t=>∃ (f:Int) (g:List Int),(f,g)=t∧s=(f,())∧Ho w0 w ((sl (some ⟨a,0,none⟩) (((i64.wrap ((qj:Int)+(qu:Int)))).toNat) (((i64.wrap ((qj:Int)+(qu:Int)))).toNat) (List.map (AA .u32) g) N.Hq9)::L)) ?_ h ⟨_,_,rfl,rfl,hS⟩
  clear h hS
  rintro s w t X q ⟨f,g,rfl,rfl,hS⟩ h hX hO
  unfold Bd5 at h
  try dsimp only
  obtain ⟨a5,aj,h⟩:=bnd h
  obtain rfl:=Ai1 aj ((qx.mono tl1).nw hS)
  refine Aa4 h ?_ ?_<;>intro hc h
  ·
   obtain ⟨o4,y,c4⟩:=bnd h
   refine Aa9 (fun s w=>∃ (i:Int) (j:List Int),(i,j)=o4∧s=(i,())∧Ho w0 w ((sl (some ⟨a,0,none⟩) (((i64.wrap ((qj:Int)+(qu:Int)))).toNat) (((i64.wrap ((qj:Int)+(qu:Int)))).toNat) (List.map (AA .u32) j) N.Hq9)::L)) (fun J4 hJ4=>?_) ?_
   ·
    have h:=y
    refine Ab4 (fun s w t=>∃ (k:Int) (l:Int) (m:List Int),(k,l,m)=t∧s=(k,l,())∧Ho w0 w ((sl (some ⟨a,0,none⟩) (((i64.wrap ((qj:Int)+(qu:Int)))).toNat) (((i64.wrap ((qj:Int)+(qu:Int)))).toNat) (List.map (AA .u32) m) N.Hq9)::L)) ?_ h ⟨_,_,_,rfl,rfl,hS⟩
    clear h hS
    rintro s w t X q ⟨k,l,m,rfl,rfl,hS⟩ h hX hO
    unfold At1 at h
    try dsimp only
    obtain ⟨a6,ak,h⟩:=bnd h
    obtain rfl:=Ai1 ak ((vg.mono tl1).nw hS)
    refine Aa4 h ?_ ?_<;>intro hc h
    ·
     obtain ⟨a7,al,h⟩:=bnd h
     obtain ⟨z,vw,am⟩:=atE al
     refine Ad6 ((qx.mono tl1).nw hS) z vw am ?_;intro b6 an
     refine ⟨_,Ab8 ((qx.mono tl1).nw hS) an z,?_⟩
     obtain ⟨a8,ao,h⟩:=bnd h
     obtain ⟨aa,yd,ap⟩:=atE ao
     refine Ad6 ((vg.mono tl1).nw hS) aa yd ap ?_;intro b8 aq
     refine ⟨_,Ab8 ((vg.mono tl1).nw hS) aq aa,?_⟩
     obtain ⟨a9,ar,h⟩:=bnd h
     obtain ⟨ab,yv,au⟩:=atE ar
     refine Av1 ((Ent.sl mp0).nw hS) ab yv au ?_
     refine ⟨_,Ab8 ((Ent.sl mp0).nw hS) rfl ab,?_⟩
     refine Aa7 hS ?_;intro w hS
     obtain ⟨ba,av,h⟩:=bnd h
     obtain ⟨aw,vy,ac⟩:=atE av
     refine Av1 ((Ent.sl mp0).nw hS) aw vy ac ?_
     obtain ⟨bb,ax,h⟩:=bnd h
     obtain rfl:=Aa0 ax
     refine Aw7 hS rfl ac ?_;intro w hS
     refine ⟨by decide,?_⟩
     obtain rfl:=Aa0 h
     exact hX _ rfl _ _ ⟨_,_,_,rfl,rfl,hS⟩
    obtain rfl:=Aa0 h
    have h:=congrArg some (hO _ rfl)
    exact hJ4 _ _ ⟨_,_,Aa0 h,rfl,hS⟩
   clear y hS
   rintro s w ⟨i,j,rfl,rfl,hS⟩
   have h:=c4
   try dsimp only
   obtain ⟨bc,ay,h⟩:=bnd h
   obtain rfl:=Ai1 ay ((vg.mono tl1).nw hS)
   obtain ⟨be,az,h⟩:=bnd h
   obtain ⟨a1,jv,ad⟩:=atE az
   refine Av1 ((Ent.sl mp0).nw hS) a1 jv ad ?_
   obtain ⟨bf,a2,h⟩:=bnd h
   obtain rfl:=Aa0 a2
   refine Aw7 hS rfl ad ?_;intro w hS
   obtain rfl:=Aa0 h
   exact hX _ rfl _ _ ⟨_,_,rfl,rfl,hS⟩
  obtain rfl:=Aa0 h
  have h:=congrArg some (hO _ rfl)
  exact hJ3 _ _ ⟨_,Aa0 h,rfl,hS⟩
 clear x hS
 rintro s w ⟨e,rfl,rfl,hS⟩
 have h:=c3
 try dsimp only
 obtain ⟨bh,a3,h⟩:=bnd h
 refine Aj7 H hS (Ent.sl mp0) a3 ?_;rintro w hS
 refine ⟨_,_,_,rfl,?_⟩
 obtain ⟨bi,a4,h⟩:=bnd h
 obtain ⟨rfl,zs,zt,yy⟩:=Dm9 a4
 have zu:=((Ent.sl mp0).nw hS).hiCap yy
 replace hS:=Ho.cut hS yy
 cases Aa0 h
 exact hK _ _ _ _ hS
theorem Dk3 {r_0} {b_0 s_0:Value} {r_1 qt qs qo qp l1_1 r_2 vq vt vh vj c d e} (hS:Ho w0 w ((cl r_0 [b_0,s_0] N.Hr0)::L)) (a:Ent L (cl r_1 [.bool qt,.slice qs qo qp] N.Hr0).A) (qy:EW L l1_1 qs qo qp) (b:Ent L (cl r_2 [.bool vq,.slice vt vh vj] N.Hr0).A) (vp:EW L c vt vh vj) (h:Cn6 qt l1_1 vq c=some (d,e)) (hK:∀ (a0:OA) (f g:Nat) (i:World),Ho w0 i ((cl r_0 [.bool d,.slice a0 f g] N.Hr0)::(sl a0 f g (List.map (AA .u32) e) N.Hq9)::L)→K (.pointer (some ⟨r_0,0,none⟩)) i):Aa1 P N.Hq7 #[.pointer (some ⟨r_0,0,none⟩),.pointer (some ⟨r_1,0,none⟩),.pointer (some ⟨r_2,0,none⟩)] w K:=by
 refine H.bI_Mul (some ⟨r_0,0,none⟩) (some ⟨r_1,0,none⟩) (some ⟨r_2,0,none⟩) w _ ?_
 unfold Ek2
 unfold Cn6 at h
 try dsimp only
 refine Ac0 ?_
 refine ⟨_,(a.cel tl1 hS rfl),?_⟩
 refine Ac0 ?_
 refine ⟨_,(b.cel tl1 hS rfl),?_⟩
 refine Ac0 ?_
 refine ⟨_,_,_,(a.cel tl1 hS rfl),?_⟩
 refine Ac0 ?_
 refine ⟨_,_,_,(b.cel tl1 hS rfl),?_⟩
 refine Aa7 hS ?_;intro w hS
 obtain ⟨l,j,h⟩:=bnd h
 refine Fa9 H hS (qy.mono tl1) (vp.mono tl1) j ?_;rintro m n o w hS
 refine ⟨_,_,_,rfl,?_⟩
 refine ⟨(b.cel tl2 hS rfl),?_⟩
 refine ⟨(a.cel tl2 hS rfl),?_⟩
 refine Aa7 hS ?_;intro w hS
 obtain ⟨p,k,h⟩:=bnd h
 replace hS:=ro1 hS
 obtain rfl:=Aa0 k
 refine Ba9 H hS (Ent.sl mp1) ?_;intro w hS
 refine ⟨_,rfl,?_⟩
 refine Aa7 hS ?_;intro w hS
 cases Aa0 h
 exact hK _ _ _ _ hS
theorem Cr5 {a qj qq l0 u0} (hS:Ho w0 w L) (qx:EW L l0 a qj qq) (h:Bb9 l0=some u0) (hK:∀ d,Ho w0 d L→K (.int .u64 u0) d):Aa1 P N.Hn8 #[.slice a qj qq] w K:=by
 refine H.bn_plain a qj qq w _ ?_
 unfold De6
 unfold Bb9 at h
 try dsimp only
 obtain ⟨x,j,h⟩:=bnd h
 obtain rfl:=Ai1 j (qx.nw hS)
 obtain ⟨k,e,l⟩:=bnd h
 refine Aa9 (fun s w=>∃ (b:Int),b=k∧s=(b,())∧Ho w0 w L) (fun y hJ1=>?_) ?_
 ·
  have h:=e
  refine Aa4 h ?_ ?_<;>intro hc h
  ·
   obtain ⟨z,m,h⟩:=bnd h
   obtain ⟨f,vo,n⟩:=atE m
   refine Ad6 (qx.nw hS) f vo n ?_;intro b3 o
   refine ⟨_,Ab8 (qx.nw hS) o f,?_⟩
   exact hJ1 _ _ ⟨_,Aa0 h,rfl,hS⟩
  exact hJ1 _ _ ⟨_,Aa0 h,rfl,hS⟩
 clear e hS
 rintro s w ⟨b,rfl,rfl,hS⟩
 have h:=l
 try dsimp only
 obtain ⟨t4,p,h⟩:=bnd h
 obtain rfl:=Ai1 p (qx.nw hS)
 obtain ⟨q,g,r⟩:=bnd h
 refine Aa9 (fun s w=>∃ (c:Int),c=q∧s=(c,())∧Ho w0 w L) (fun J4 hJ4=>?_) ?_
 ·
  have h:=g
  refine Aa4 h ?_ ?_<;>intro hc h
  ·
   obtain ⟨t6,t,h⟩:=bnd h
   obtain ⟨i,vw,u⟩:=atE t
   refine Ad6 (qx.nw hS) i vw u ?_;intro b6 v
   refine ⟨_,Ab8 (qx.nw hS) v i,?_⟩
   refine ⟨by decide,?_⟩
   exact hJ4 _ _ ⟨_,Aa0 h,rfl,hS⟩
  exact hJ4 _ _ ⟨_,Aa0 h,rfl,hS⟩
 clear g hS
 rintro s w ⟨c,rfl,rfl,hS⟩
 have h:=r
 try dsimp only
 cases Aa0 h
 exact hK _ hS
theorem Ee8 {a qj qq l0 b u0 u1} (hS:Ho w0 w L) (qx:EW L l0 a qj qq) (h:Bh6 l0 b=some (u0,u1)) (hK:∀ (a0:OA) (i j:Nat) (k:World),Ho w0 k ((sl a0 i j (List.map (AA .u32) u0) N.Hq9)::L)→K (.tuple #[.slice a0 i j,.int .u32 u1]) k):Aa1 P N.Ho0 #[.slice a qj qq,.int .u32 b] w K:=by
 refine H.bn_small a qj qq b w _ ?_
 unfold Di2
 unfold Bh6 at h
 try dsimp only
 obtain ⟨t1,r,h⟩:=bnd h
 obtain rfl:=Ai1 r (qx.nw hS)
 obtain ⟨t2,u,h⟩:=bnd h
 obtain ⟨rfl,l⟩:=mkE u
 refine Ew9 (enc:=(AA .u32)) hS l rfl ?_;clear hS l;intro m w hS
 obtain ⟨t3,v,h⟩:=bnd h
 obtain rfl:=Ai1 v ((qx.mono tl1).nw hS)
 obtain ⟨x,n,y⟩:=bnd h
 refine Aa9 (fun s w=>∃ (c:Int) (d:List Int),(c,d)=x∧s=(c,())∧Ho w0 w ((sl (some ⟨m,0,none⟩) (((qj:Int)).toNat) (((qj:Int)).toNat) (List.map (AA .u32) d) N.Hq9)::L)) (fun J2 hJ2=>?_) ?_
 ·
  have h:=n
  refine Ab4 (fun s w t=>∃ (e:Int) (f:Int) (g:List Int),(e,f,g)=t∧s=(e,f,())∧Ho w0 w ((sl (some ⟨m,0,none⟩) (((qj:Int)).toNat) (((qj:Int)).toNat) (List.map (AA .u32) g) N.Hq9)::L)) ?_ h ⟨_,_,_,rfl,rfl,hS⟩
  clear h hS
  rintro s w t X q ⟨e,f,g,rfl,rfl,hS⟩ h hX hO
  unfold Aw2 at h
  try dsimp only
  refine Aa4 h ?_ ?_<;>intro hc h
  ·
   refine ⟨by decide,?_⟩
   obtain ⟨t9,z,h⟩:=bnd h
   obtain ⟨o,vu,aa⟩:=atE z
   refine Ad6 ((qx.mono tl1).nw hS) o vu aa ?_;intro b4 ab
   refine ⟨_,Ab8 ((qx.mono tl1).nw hS) ab o,?_⟩
   obtain ⟨aj,ac,h⟩:=bnd h
   refine ⟨Fo2 ac,?_⟩
   obtain ⟨ak,ad,h⟩:=bnd h
   obtain ⟨ae,vw,p⟩:=atE ad
   refine Av1 ((Ent.sl mp0).nw hS) ae vw p ?_
   obtain ⟨al,af,h⟩:=bnd h
   obtain rfl:=Aa0 af
   refine Aw7 hS rfl p ?_;intro w hS
   obtain ⟨am,ag,h⟩:=bnd h
   refine ⟨Fo2 ag,?_⟩
   obtain rfl:=Aa0 h
   exact hX _ rfl _ _ ⟨_,_,_,rfl,rfl,hS⟩
  obtain rfl:=Aa0 h
  have h:=congrArg some (hO _ rfl)
  exact hJ2 _ _ ⟨_,_,Aa0 h,rfl,hS⟩
 clear n hS
 rintro s w ⟨c,d,rfl,rfl,hS⟩
 have h:=y
 try dsimp only
 obtain ⟨an,ah,h⟩:=bnd h
 refine Aj7 H hS (Ent.sl mp0) ah ?_;rintro w hS
 refine ⟨_,_,_,rfl,?_⟩
 obtain ⟨ao,ai,h⟩:=bnd h
 obtain ⟨rfl,zv,zw,yz⟩:=Dm9 ai
 have zx:=((Ent.sl mp0).nw hS).hiCap yz
 replace hS:=Ho.cut hS yz
 cases Aa0 h
 exact hK _ _ _ _ hS
theorem Fc3 {j qj qq l0 k qu vf l1 u0 u1} (hS:Ho w0 w L) (qx:EW L l0 j qj qq) (vg:EW L l1 k qu vf) (h:Bx7 l0 l1=some (u0,u1)) (hK:∀ (a0:OA) (n0 c0:Nat) (l:OA) (n1 n:Nat) (w1:World),Ho w0 w1 ((sl a0 n0 c0 (List.map (AA .u32) u0) N.Hq9)::(sl l n1 n (List.map (AA .u32) u1) N.Hq9)::L)→K (.tuple #[.slice a0 n0 c0,.slice l n1 n]) w1):Aa1 P N.Hp9 #[.slice j qj qq,.slice k qu vf] w K:=by
 refine H.bn_div j qj qq k qu vf w _ ?_
 unfold Eo0
 unfold Bx7 at h
 try dsimp only
 obtain ⟨t1,bt,h⟩:=bnd h
 obtain rfl:=Ai1 bt (vg.nw hS)
 refine Aa4 h ?_ ?_<;>intro hc h
 ·
  replace hS:=hS.none (α:=Int) (enc:=(AA .u32)) (t:=N.Hq9)
  replace hS:=hS.none (α:=Int) (enc:=(AA .u32)) (t:=N.Hq9)
  cases Aa0 h
  exact hK _ _ _ _ _ _ _ (hS.pick (A:=[_,_]) [1,0] rfl)
 obtain ⟨t2,bv,h⟩:=bnd h
 refine Cw3 H hS qx vg bv ?_;rintro w hS
 refine ⟨_,rfl,?_⟩
 refine Aa4 h ?_ ?_<;>intro hc h
 ·
  obtain ⟨t3,bw,h⟩:=bnd h
  refine Ce9 H hS qx bw ?_;rintro l m1 n w hS
  refine ⟨_,_,_,rfl,?_⟩
  replace hS:=hS.none (α:=Int) (enc:=(AA .u32)) (t:=N.Hq9)
  cases Aa0 h
  exact hK _ _ _ _ _ _ _ hS
 obtain ⟨t4,bx,h⟩:=bnd h
 obtain rfl:=Ai1 bx (qx.nw hS)
 refine Aa4 h ?_ ?_<;>intro hc h
 ·
  obtain ⟨t5,bz,h⟩:=bnd h
  refine Cr5 H hS qx bz ?_;rintro w hS
  refine ⟨_,rfl,?_⟩
  obtain ⟨t6,b0,h⟩:=bnd h
  refine Cr5 H hS vg b0 ?_;rintro w hS
  refine ⟨_,rfl,?_⟩
  obtain ⟨em,b1,h⟩:=bnd h
  refine ⟨Fo2 b1,?_⟩
  obtain ⟨t9,b2,h⟩:=bnd h
  refine ⟨Fo2 b2,?_⟩
  refine Aa7 hS ?_;intro w hS
  obtain ⟨t7,b3,h⟩:=bnd h
  refine Bl5 H hS  b3 ?_;rintro a2 m2 c2 w hS
  refine ⟨_,_,_,rfl,?_⟩
  refine Aa7 hS ?_;intro w hS
  obtain ⟨t8,b4,h⟩:=bnd h
  refine Bl5 H hS  b4 ?_;rintro a3 m3 c3 w hS
  refine ⟨_,_,_,rfl,?_⟩
  refine Aa7 hS ?_;intro w hS
  cases Aa0 h
  exact hK _ _ _ _ _ _ _ (hS.pick (A:=[_,_]) [1,0] rfl)
 obtain ⟨en,b6,h⟩:=bnd h
 obtain rfl:=Ai1 b6 (vg.nw hS)
 refine Aa4 h ?_ ?_<;>intro hc h
 ·
  obtain ⟨eo,b7,h⟩:=bnd h
  obtain ⟨am,vx,b8⟩:=atE b7
  refine Ad6 (vg.nw hS) am vx b8 ?_;intro b5 b9
  refine ⟨_,Ab8 (vg.nw hS) b9 am,?_⟩
  obtain ⟨⟨ep,an⟩,ao,h⟩:=bnd h
  refine Ee8 H hS qx ao ?_;clear hS ao;rintro a6 m6 c6 w hS
  refine ⟨_,_,_,_,rfl,?_⟩
  obtain ⟨ca,cb,h⟩:=bnd h
  obtain rfl:([an]:List Int)=ca:=Aa0 cb
  refine Ba4 (ks:=[an]) (enc:=(AA .u32)) (m:=1) hS rfl rfl ?_;intro r7 w hS
  obtain ⟨eq,cc,h⟩:=bnd h
  refine Aj7 H hS (Ent.sl mp0) cc ?_;rintro w hS
  refine ⟨_,_,_,rfl,?_⟩
  obtain ⟨er,cd,h⟩:=bnd h
  obtain ⟨rfl,bq,br,zf⟩:=Dm9 cd
  have bu:=((Ent.sl mp0).nw hS).hiCap zf
  replace hS:=Ho.cut hS zf
  cases Aa0 h
  exact hK _ _ _ _ _ _ _ (hS.pick (A:=[_,_]) [1,0] rfl)
 obtain ⟨es,ce,h⟩:=bnd h
 refine Ci6 H hS vg ce ?_;rintro w hS
 refine ⟨_,rfl,?_⟩
 refine ⟨by decide,?_⟩
 obtain ⟨e,cf,h⟩:=bnd h
 refine Ce3 H hS vg cf ?_;rintro f a g w hS
 refine ⟨_,_,_,rfl,?_⟩
 obtain ⟨et,cg,h⟩:=bnd h
 obtain rfl:=Ai1 cg ((qx.mono tl1).nw hS)
 obtain ⟨eu,ch,h⟩:=bnd h
 obtain ⟨rfl,ap⟩:=mkE ch
 refine Ew9 (enc:=(AA .u32)) hS ap rfl ?_;clear hS ap;intro c w hS
 obtain ⟨ew,ci,h⟩:=bnd h
 refine Ce3 H hS (qx.mono tl2) ci ?_;rintro ey ez e0 w hS
 refine ⟨_,_,_,rfl,?_⟩
 obtain ⟨e1,ck,h⟩:=bnd h
 obtain rfl:=Aa0 ck
 replace hS:=ro1 hS
 refine Gn0 hS ((Ent.sl mp1).nw hS) (fun _=>rfl) ?_;intro w hS
 obtain ⟨e2,cm,h⟩:=bnd h
 obtain rfl:=Ai1 cm ((Ent.sl mp2).nw hS)
 obtain ⟨e3,cn,h⟩:=bnd h
 obtain rfl:=Ai1 cn ((Ent.sl mp0).nw hS)
 obtain ⟨e4,co,h⟩:=bnd h
 obtain ⟨rfl,aq⟩:=mkE co
 refine Ew9 (enc:=(AA .u32)) hS aq rfl ?_;clear hS aq;intro d w hS
 obtain ⟨e5,cp,h⟩:=bnd h
 obtain ⟨ar,ym,cq⟩:=atE cp
 refine Ad6 ((Ent.sl mp3).nw hS) ar ym cq ?_;intro e6 cr
 refine ⟨_,Ab8 ((Ent.sl mp3).nw hS) cr ar,?_⟩
 obtain ⟨e7,cs,h⟩:=bnd h
 obtain ⟨au,yf,ct⟩:=atE cs
 refine Ad6 ((Ent.sl mp3).nw hS) au yf ct ?_;intro e8 cu
 refine ⟨_,Ab8 ((Ent.sl mp3).nw hS) cu au,?_⟩
 refine Aa7 hS ?_;intro w hS
 obtain ⟨cw,av,cx⟩:=bnd h
 refine Aa9 (fun s w=>∃ (o:List Int) (p:List Int),(o,p)=cw∧s=(())∧Ho w0 w ((sl (some ⟨d,0,none⟩) (((i64.wrap ((i64.wrap ((i64.wrap (((((i64.wrap ((qj:Int)+2))).toNat:Nat):Int)-(a:Int)))-1))+1))).toNat) (((i64.wrap ((i64.wrap ((i64.wrap (((((i64.wrap ((qj:Int)+2))).toNat:Nat):Int)-(a:Int)))-1))+1))).toNat) (List.map (AA .u32) o) N.Hq9)::(sl (some ⟨c,0,none⟩) (((i64.wrap ((qj:Int)+2))).toNat) (((i64.wrap ((qj:Int)+2))).toNat) (List.map (AA .u32) p) N.Hq9)::L)) (fun e9 hJ18=>?_) ?_
 ·
  have h:=av
  refine Ab4 (fun s w t=>∃ (r:Int) (b:List Int) (i:List Int),(r,b,i)=t∧s=(r,())∧Ho w0 w ((sl (some ⟨d,0,none⟩) (((i64.wrap ((i64.wrap ((i64.wrap (((((i64.wrap ((qj:Int)+2))).toNat:Nat):Int)-(a:Int)))-1))+1))).toNat) (((i64.wrap ((i64.wrap ((i64.wrap (((((i64.wrap ((qj:Int)+2))).toNat:Nat):Int)-(a:Int)))-1))+1))).toNat) (List.map (AA .u32) b) N.Hq9)::(sl (some ⟨c,0,none⟩) (((i64.wrap ((qj:Int)+2))).toNat) (((i64.wrap ((qj:Int)+2))).toNat) (List.map (AA .u32) i) N.Hq9)::(sl f a g (List.map (AA .u32) e) N.Hq9)::L)) ?_ h ⟨_,_,_,rfl,rfl,(hS.pick (A:=[_,_,_,_]) [0,0,1] rfl)⟩
  clear h hS
  rintro s w t X q ⟨r,b,i,rfl,rfl,hS⟩ h hX hO
  unfold Aq5 at h
  try dsimp only
  refine Aa4 h ?_ ?_<;>intro hc h
  ·
   obtain ⟨fa,cy,h⟩:=bnd h
   obtain ⟨aw,yn,cz⟩:=atE cy
   refine Av1 ((Ent.sl mp1).nw hS) aw yn cz ?_
   refine ⟨_,Ab8 ((Ent.sl mp1).nw hS) rfl aw,?_⟩
   refine ⟨by decide,?_⟩
   obtain ⟨fb,c4,h⟩:=bnd h
   obtain ⟨ax,yo,c5⟩:=atE c4
   refine Av1 ((Ent.sl mp1).nw hS) ax yo c5 ?_
   refine ⟨_,Ab8 ((Ent.sl mp1).nw hS) rfl ax,?_⟩
   refine Aa7 hS ?_;intro w hS
   obtain ⟨fc,c7,h⟩:=bnd h
   refine ⟨Fo2 c7,?_⟩
   obtain ⟨fd,c8,h⟩:=bnd h
   refine ⟨Fo2 c8,?_⟩
   refine Aa7 hS ?_;intro w hS
   obtain ⟨c9,ay,da⟩:=bnd h
   refine Aa9 (fun s w=>∃ (u:Int),u=c9∧s=(u,())∧Ho w0 w ((sl (some ⟨d,0,none⟩) (((i64.wrap ((i64.wrap ((i64.wrap (((((i64.wrap ((qj:Int)+2))).toNat:Nat):Int)-(a:Int)))-1))+1))).toNat) (((i64.wrap ((i64.wrap ((i64.wrap (((((i64.wrap ((qj:Int)+2))).toNat:Nat):Int)-(a:Int)))-1))+1))).toNat) (List.map (AA .u32) b) N.Hq9)::(sl (some ⟨c,0,none⟩) (((i64.wrap ((qj:Int)+2))).toNat) (((i64.wrap ((qj:Int)+2))).toNat) (List.map (AA .u32) i) N.Hq9)::(sl f a g (List.map (AA .u32) e) N.Hq9)::L)) (fun fe hJ23=>?_) ?_
   ·
    have h:=ay
    refine Ab4 (fun s w t=>∃ (v:Int) (x:Int),(v,x)=t∧s=(v,x,())∧Ho w0 w ((sl (some ⟨d,0,none⟩) (((i64.wrap ((i64.wrap ((i64.wrap (((((i64.wrap ((qj:Int)+2))).toNat:Nat):Int)-(a:Int)))-1))+1))).toNat) (((i64.wrap ((i64.wrap ((i64.wrap (((((i64.wrap ((qj:Int)+2))).toNat:Nat):Int)-(a:Int)))-1))+1))).toNat) (List.map (AA .u32) b) N.Hq9)::(sl (some ⟨c,0,none⟩) (((i64.wrap ((qj:Int)+2))).toNat) (((i64.wrap ((qj:Int)+2))).toNat) (List.map (AA .u32) i) N.Hq9)::(sl f a g (List.map (AA .u32) e) N.Hq9)::L)) ?_ h ⟨_,_,rfl,rfl,hS⟩
    clear h hS
    rintro s w t X q ⟨v,x,rfl,rfl,hS⟩ h hX hO
    unfold Az3 at h
    try dsimp only
    refine Aa4 h ?_ ?_<;>intro hc h
    ·
     refine ⟨by decide,?_⟩
     obtain ⟨ff,db,h⟩:=bnd h
     obtain ⟨az,jw,dc⟩:=atE db
     refine Av1 ((Ent.sl mp1).nw hS) az jw dc ?_
     refine ⟨_,Ab8 ((Ent.sl mp1).nw hS) rfl az,?_⟩
     refine Aa4 h ?_ ?_<;>intro hc h
     ·
      refine Aa4 h ?_ ?_<;>intro hc h
      ·
       obtain rfl:=Aa0 h
       have h:=congrArg some (hO _ rfl)
       exact hJ23 _ _ ⟨_,Aa0 h,rfl,hS⟩
      obtain rfl:=Aa0 h
      exact hX _ rfl _ _ ⟨_,_,rfl,rfl,hS⟩
     obtain rfl:=Aa0 h
     have h:=congrArg some (hO _ rfl)
     exact hJ23 _ _ ⟨_,Aa0 h,rfl,hS⟩
    refine Aa4 h ?_ ?_<;>intro hc h
    ·
     obtain rfl:=Aa0 h
     have h:=congrArg some (hO _ rfl)
     exact hJ23 _ _ ⟨_,Aa0 h,rfl,hS⟩
    obtain rfl:=Aa0 h
    exact hX _ rfl _ _ ⟨_,_,rfl,rfl,hS⟩
   clear ay hS
   rintro s w ⟨u,rfl,rfl,hS⟩
   have h:=da
   try dsimp only
   obtain ⟨dd,a4,de⟩:=bnd h
   refine Aa9 (fun s w=>∃ (y:Int) (z:Int) (aa:List Int),(y,z,aa)=dd∧s=(y,z,())∧Ho w0 w ((sl (some ⟨d,0,none⟩) (((i64.wrap ((i64.wrap ((i64.wrap (((((i64.wrap ((qj:Int)+2))).toNat:Nat):Int)-(a:Int)))-1))+1))).toNat) (((i64.wrap ((i64.wrap ((i64.wrap (((((i64.wrap ((qj:Int)+2))).toNat:Nat):Int)-(a:Int)))-1))+1))).toNat) (List.map (AA .u32) b) N.Hq9)::(sl (some ⟨c,0,none⟩) (((i64.wrap ((qj:Int)+2))).toNat) (((i64.wrap ((qj:Int)+2))).toNat) (List.map (AA .u32) aa) N.Hq9)::(sl f a g (List.map (AA .u32) e) N.Hq9)::L)) (fun fg hJ26=>?_) ?_
   ·
    have h:=a4
    refine Ab4 (fun s w t=>∃ (ab:Int) (ac:Int) (ad:Int) (ae:List Int),(ab,ac,ad,ae)=t∧s=(ab,ac,ad,())∧Ho w0 w ((sl (some ⟨d,0,none⟩) (((i64.wrap ((i64.wrap ((i64.wrap (((((i64.wrap ((qj:Int)+2))).toNat:Nat):Int)-(a:Int)))-1))+1))).toNat) (((i64.wrap ((i64.wrap ((i64.wrap (((((i64.wrap ((qj:Int)+2))).toNat:Nat):Int)-(a:Int)))-1))+1))).toNat) (List.map (AA .u32) b) N.Hq9)::(sl (some ⟨c,0,none⟩) (((i64.wrap ((qj:Int)+2))).toNat) (((i64.wrap ((qj:Int)+2))).toNat) (List.map (AA .u32) ae) N.Hq9)::(sl f a g (List.map (AA .u32) e) N.Hq9)::L)) ?_ h ⟨_,_,_,_,rfl,rfl,hS⟩
    clear h hS
    rintro s w t X q ⟨ab,ac,ad,ae,rfl,rfl,hS⟩ h hX hO
    unfold Au8 at h
    try dsimp only
    refine Aa4 h ?_ ?_<;>intro hc h
    ·
     obtain ⟨fh,df,h⟩:=bnd h
     obtain ⟨a5,jy,dh⟩:=atE df
     refine Ad6 ((Ent.sl mp2).nw hS) a5 jy dh ?_;intro fi di
     refine ⟨_,Ab8 ((Ent.sl mp2).nw hS) di a5,?_⟩
     obtain ⟨fj,dj,h⟩:=bnd h
     obtain ⟨a7,jz,dk⟩:=atE dj
     refine Av1 ((Ent.sl mp1).nw hS) a7 jz dk ?_
     refine ⟨_,Ab8 ((Ent.sl mp1).nw hS) rfl a7,?_⟩
     obtain ⟨fk,dm,h⟩:=bnd h
     obtain ⟨dn,ga,a8⟩:=atE dm
     refine Av1 ((Ent.sl mp1).nw hS) dn ga a8 ?_
     replace hS:=ro1 hS
     obtain ⟨fl,dp,h⟩:=bnd h
     obtain rfl:=Aa0 dp
     refine Aw7 hS rfl a8 ?_;intro w hS
     refine ⟨by decide,?_⟩
     refine ⟨by decide,?_⟩
     obtain rfl:=Aa0 h
     exact hX _ rfl _ _ ⟨_,_,_,_,rfl,rfl,(hS.pick (A:=[_,_,_]) [1,0,0] rfl)⟩
    obtain rfl:=Aa0 h
    have h:=congrArg some (hO _ rfl)
    exact hJ26 _ _ ⟨_,_,_,Aa0 h,rfl,hS⟩
   clear a4 hS
   rintro s w ⟨y,z,aa,rfl,rfl,hS⟩
   have h:=de
   try dsimp only
   obtain ⟨fm,dq,h⟩:=bnd h
   obtain ⟨a9,yp,dr⟩:=atE dq
   refine Av1 ((Ent.sl mp1).nw hS) a9 yp dr ?_
   refine ⟨_,Ab8 ((Ent.sl mp1).nw hS) rfl a9,?_⟩
   obtain ⟨fn,ds,h⟩:=bnd h
   obtain ⟨dt,yq,ba⟩:=atE ds
   refine Av1 ((Ent.sl mp1).nw hS) dt yq ba ?_
   replace hS:=ro1 hS
   obtain ⟨fo,du,h⟩:=bnd h
   obtain rfl:=Aa0 du
   refine Aw7 hS rfl ba ?_;intro w hS
   refine ⟨by decide,?_⟩
   obtain ⟨dw,bc,dx⟩:=bnd h
   refine Aa9 (fun s w=>∃ (af:Int) (ag:List Int),(af,ag)=dw∧s=(af,())∧Ho w0 w ((sl (some ⟨c,0,none⟩) (((i64.wrap ((qj:Int)+2))).toNat) (((i64.wrap ((qj:Int)+2))).toNat) (List.map (AA .u32) ag) N.Hq9)::(sl (some ⟨d,0,none⟩) (((i64.wrap ((i64.wrap ((i64.wrap (((((i64.wrap ((qj:Int)+2))).toNat:Nat):Int)-(a:Int)))-1))+1))).toNat) (((i64.wrap ((i64.wrap ((i64.wrap (((((i64.wrap ((qj:Int)+2))).toNat:Nat):Int)-(a:Int)))-1))+1))).toNat) (List.map (AA .u32) b) N.Hq9)::(sl f a g (List.map (AA .u32) e) N.Hq9)::L)) (fun fp hJ37=>?_) ?_
   ·
    have h:=bc
    refine Aa4 h ?_ ?_<;>intro hc h
    ·
     obtain ⟨dy,be,d0⟩:=bnd h
     refine Aa9 (fun s w=>∃ (ah:Int) (ai:List Int),(ah,ai)=dy∧s=(ah,())∧Ho w0 w ((sl (some ⟨c,0,none⟩) (((i64.wrap ((qj:Int)+2))).toNat) (((i64.wrap ((qj:Int)+2))).toNat) (List.map (AA .u32) ai) N.Hq9)::(sl (some ⟨d,0,none⟩) (((i64.wrap ((i64.wrap ((i64.wrap (((((i64.wrap ((qj:Int)+2))).toNat:Nat):Int)-(a:Int)))-1))+1))).toNat) (((i64.wrap ((i64.wrap ((i64.wrap (((((i64.wrap ((qj:Int)+2))).toNat:Nat):Int)-(a:Int)))-1))+1))).toNat) (List.map (AA .u32) b) N.Hq9)::(sl f a g (List.map (AA .u32) e) N.Hq9)::L)) (fun fq hJ38=>?_) ?_
     ·
      have h:=be
      refine Ab4 (fun s w t=>∃ (aj:Int) (ak:Int) (al:List Int),(aj,ak,al)=t∧s=(aj,ak,())∧Ho w0 w ((sl (some ⟨c,0,none⟩) (((i64.wrap ((qj:Int)+2))).toNat) (((i64.wrap ((qj:Int)+2))).toNat) (List.map (AA .u32) al) N.Hq9)::(sl (some ⟨d,0,none⟩) (((i64.wrap ((i64.wrap ((i64.wrap (((((i64.wrap ((qj:Int)+2))).toNat:Nat):Int)-(a:Int)))-1))+1))).toNat) (((i64.wrap ((i64.wrap ((i64.wrap (((((i64.wrap ((qj:Int)+2))).toNat:Nat):Int)-(a:Int)))-1))+1))).toNat) (List.map (AA .u32) b) N.Hq9)::(sl f a g (List.map (AA .u32) e) N.Hq9)::L)) ?_ h ⟨_,_,_,rfl,rfl,hS⟩
      clear h hS
      rintro s w t X q ⟨aj,ak,al,rfl,rfl,hS⟩ h hX hO
      unfold Au7 at h
      try dsimp only
      refine Aa4 h ?_ ?_<;>intro hc h
      ·
       obtain ⟨fr,d1,h⟩:=bnd h
       obtain ⟨bk,gb,d2⟩:=atE d1
       refine Av1 ((Ent.sl mp0).nw hS) bk gb d2 ?_
       refine ⟨_,Ab8 ((Ent.sl mp0).nw hS) rfl bk,?_⟩
       obtain ⟨fs,d3,h⟩:=bnd h
       obtain ⟨bl,ge,d4⟩:=atE d3
       refine Ad6 ((Ent.sl mp2).nw hS) bl ge d4 ?_;intro ft d5
       refine ⟨_,Ab8 ((Ent.sl mp2).nw hS) d5 bl,?_⟩
       refine Aa7 hS ?_;intro w hS
       obtain ⟨fu,d6,h⟩:=bnd h
       obtain ⟨d7,gf,bm⟩:=atE d6
       refine Av1 ((Ent.sl mp0).nw hS) d7 gf bm ?_
       obtain ⟨fv,d8,h⟩:=bnd h
       obtain rfl:=Aa0 d8
       refine Aw7 hS rfl bm ?_;intro w hS
       refine ⟨by decide,?_⟩
       obtain rfl:=Aa0 h
       exact hX _ rfl _ _ ⟨_,_,_,rfl,rfl,hS⟩
      obtain rfl:=Aa0 h
      have h:=congrArg some (hO _ rfl)
      exact hJ38 _ _ ⟨_,_,Aa0 h,rfl,hS⟩
     clear be hS
     rintro s w ⟨ah,ai,rfl,rfl,hS⟩
     have h:=d0
     try dsimp only
     obtain ⟨fw,d9,h⟩:=bnd h
     obtain ⟨bo,gh,ea⟩:=atE d9
     refine Av1 ((Ent.sl mp0).nw hS) bo gh ea ?_
     refine ⟨_,Ab8 ((Ent.sl mp0).nw hS) rfl bo,?_⟩
     obtain ⟨fx,eb,h⟩:=bnd h
     obtain ⟨ec,gi,bp⟩:=atE eb
     refine Av1 ((Ent.sl mp0).nw hS) ec gi bp ?_
     obtain ⟨fy,ed,h⟩:=bnd h
     obtain rfl:=Aa0 ed
     refine Aw7 hS rfl bp ?_;intro w hS
     exact hJ37 _ _ ⟨_,_,Aa0 h,rfl,hS⟩
    exact hJ37 _ _ ⟨_,_,Aa0 h,rfl,hS⟩
   clear bc hS
   rintro s w ⟨af,ag,rfl,rfl,hS⟩
   have h:=dx
   try dsimp only
   obtain ⟨f0,ee,h⟩:=bnd h
   obtain ⟨ef,gl,bs⟩:=atE ee
   refine Av1 ((Ent.sl mp1).nw hS) ef gl bs ?_
   replace hS:=ro1 hS
   obtain ⟨f1,eg,h⟩:=bnd h
   obtain rfl:=Aa0 eg
   refine Aw7 hS rfl bs ?_;intro w hS
   obtain rfl:=Aa0 h
   exact hX _ rfl _ _ ⟨_,_,_,rfl,rfl,hS⟩
  obtain rfl:=Aa0 h
  have h:=congrArg some (hO _ rfl)
  obtain rfl:=Aa0 h
  exact hJ18 _ _ ⟨_,_,rfl,rfl,(hS.pick (A:=[_,_,_]) [0,0] rfl)⟩
 clear av hS
 rintro s w ⟨o,p,rfl,rfl,hS⟩
 have h:=cx
 try dsimp only
 obtain ⟨f2,eh,h⟩:=bnd h
 refine Aj7 H hS (Ent.sl mp0) eh ?_;rintro w hS
 refine ⟨_,_,_,rfl,?_⟩
 obtain ⟨f3,ei,h⟩:=bnd h
 obtain ⟨rfl,bb,bf,ja⟩:=Dm9 ei
 have bh:=((Ent.sl mp0).nw hS).hiCap ja
 obtain ⟨f4,ej,h⟩:=bnd h
 refine Aj7 H hS (Ent.sl mp1) ej ?_;rintro w hS
 refine ⟨_,_,_,rfl,?_⟩
 obtain ⟨f5,ek,h⟩:=bnd h
 obtain ⟨rfl,bi,gm,jb⟩:=Dm9 ek
 have bj:=((Ent.sl mp1).nw hS).hiCap jb
 obtain ⟨f6,el,h⟩:=bnd h
 refine Bd3 H hS (Ent.upto (Ent.sl mp1) gm jb) el ?_;rintro f7 f8 f9 w hS
 refine ⟨_,_,_,rfl,?_⟩
 replace hS:=ro1 hS
 replace hS:=Ho.cut hS ja
 cases Aa0 h
 exact hK _ _ _ _ _ _ _ (hS.pick (A:=[_,_,_]) [0,0] rfl)
theorem Dy9 {r_0} {b_0 s_0:Value} {r_1 qt qs qo qp l1_1 a b} (hS:Ho w0 w ((cl r_0 [b_0,s_0] N.Hr0)::L)) (f:Ent L (cl r_1 [.bool qt,.slice qs qo qp] N.Hr0).A) (qy:EW L l1_1 qs qo qp) (h:Cn9 qt l1_1=some (a,b)) (hK:∀ (a0:OA) (c d:Nat) (e:World),Ho w0 e ((cl r_0 [.bool a,.slice a0 c d] N.Hr0)::(sl a0 c d (List.map (AA .u32) b) N.Hq9)::L)→K (.pointer (some ⟨r_0,0,none⟩)) e):Aa1 P N.Hq3 #[.pointer (some ⟨r_0,0,none⟩),.pointer (some ⟨r_1,0,none⟩)] w K:=by
 refine H.bI_Abs (some ⟨r_0,0,none⟩) (some ⟨r_1,0,none⟩) w _ ?_
 unfold El8
 unfold Cn9 at h
 try dsimp only
 refine Ac0 ?_
 refine ⟨_,_,_,(f.cel tl1 hS rfl),?_⟩
 obtain ⟨j,g,h⟩:=bnd h
 refine Ce9 H hS (qy.mono tl1) g ?_;rintro k l m w hS
 refine ⟨_,_,_,rfl,?_⟩
 obtain ⟨n,i,h⟩:=bnd h
 replace hS:=ro1 hS
 obtain rfl:=Aa0 i
 refine Ba9 H hS (Ent.sl mp1) ?_;intro w hS
 refine ⟨_,rfl,?_⟩
 cases Aa0 h
 exact hK _ _ _ _ hS
theorem Db7 {r_0 qd qb qe qg l0_1 u0} (hS:Ho w0 w L) (a:Ent L (cl r_0 [.bool qd,.slice qb qe qg] N.Hr0).A) (qr:EW L l0_1 qb qe qg) (h:Bj7 qd l0_1=some u0) (hK:∀ d,Ho w0 d L→K (.int .u64 u0) d):Aa1 P N.Hn1 #[.pointer (some ⟨r_0,0,none⟩)] w K:=by
 refine H.bI_Uint64 (some ⟨r_0,0,none⟩) w _ ?_
 unfold Cq0
 unfold Bj7 at h
 try dsimp only
 refine Ac0 ?_
 refine ⟨_,_,_,(a.cel (fun _ h=>h) hS rfl),?_⟩
 obtain ⟨x,j,h⟩:=bnd h
 obtain rfl:=Ai1 j (qr.nw hS)
 obtain ⟨k,e,l⟩:=bnd h
 refine Aa9 (fun s w=>∃ (b:Int),b=k∧s=(b,())∧Ho w0 w L) (fun y hJ1=>?_) ?_
 ·
  have h:=e
  refine Aa4 h ?_ ?_<;>intro hc h
  ·
   refine Ac0 ?_
   refine ⟨_,_,_,(a.cel (fun _ h=>h) hS rfl),?_⟩
   obtain ⟨z,m,h⟩:=bnd h
   obtain ⟨f,vo,n⟩:=atE m
   refine Ad6 (qr.nw hS) f vo n ?_;intro b3 o
   refine ⟨_,Ab8 (qr.nw hS) o f,?_⟩
   exact hJ1 _ _ ⟨_,Aa0 h,rfl,hS⟩
  exact hJ1 _ _ ⟨_,Aa0 h,rfl,hS⟩
 clear e hS
 rintro s w ⟨b,rfl,rfl,hS⟩
 have h:=l
 try dsimp only
 refine Ac0 ?_
 refine ⟨_,_,_,(a.cel (fun _ h=>h) hS rfl),?_⟩
 obtain ⟨t4,p,h⟩:=bnd h
 obtain rfl:=Ai1 p (qr.nw hS)
 obtain ⟨q,g,r⟩:=bnd h
 refine Aa9 (fun s w=>∃ (c:Int),c=q∧s=(c,())∧Ho w0 w L) (fun J4 hJ4=>?_) ?_
 ·
  have h:=g
  refine Aa4 h ?_ ?_<;>intro hc h
  ·
   refine Ac0 ?_
   refine ⟨_,_,_,(a.cel (fun _ h=>h) hS rfl),?_⟩
   obtain ⟨t6,t,h⟩:=bnd h
   obtain ⟨i,vw,u⟩:=atE t
   refine Ad6 (qr.nw hS) i vw u ?_;intro b6 v
   refine ⟨_,Ab8 (qr.nw hS) v i,?_⟩
   refine ⟨by decide,?_⟩
   exact hJ4 _ _ ⟨_,Aa0 h,rfl,hS⟩
  exact hJ4 _ _ ⟨_,Aa0 h,rfl,hS⟩
 clear g hS
 rintro s w ⟨c,rfl,rfl,hS⟩
 have h:=r
 try dsimp only
 cases Aa0 h
 exact hK _ hS
theorem Dl7 {r_0} {b_0 s_0:Value} {r_1 qt qs qo qp l1_1 r_2 vq vt vh vj d e f} (hS:Ho w0 w ((cl r_0 [b_0,s_0] N.Hr0)::L)) (g:Ent L (cl r_1 [.bool qt,.slice qs qo qp] N.Hr0).A) (qy:EW L l1_1 qs qo qp) (i:Ent L (cl r_2 [.bool vq,.slice vt vh vj] N.Hr0).A) (vp:EW L d vt vh vj) (h:Co2 qt l1_1 vq d=some (e,f)) (hK:∀ (a0:OA) (j k:Nat) (l:World),Ho w0 l ((cl r_0 [.bool e,.slice a0 j k] N.Hr0)::(sl a0 j k (List.map (AA .u32) f) N.Hq9)::L)→K (.pointer (some ⟨r_0,0,none⟩)) l):Aa1 P N.Hr6 #[.pointer (some ⟨r_0,0,none⟩),.pointer (some ⟨r_1,0,none⟩),.pointer (some ⟨r_2,0,none⟩)] w K:=by
 refine H.bI_And (some ⟨r_0,0,none⟩) (some ⟨r_1,0,none⟩) (some ⟨r_2,0,none⟩) w _ ?_
 unfold Ej9
 unfold Co2 at h
 try dsimp only
 refine Ac0 ?_
 refine ⟨_,_,_,(g.cel tl1 hS rfl),?_⟩
 obtain ⟨t1,y,h⟩:=bnd h
 obtain rfl:=Ai1 y ((qy.mono tl1).nw hS)
 refine Ac0 ?_
 refine ⟨_,_,_,(i.cel tl1 hS rfl),?_⟩
 obtain ⟨t2,z,h⟩:=bnd h
 obtain rfl:=Ai1 z ((vp.mono tl1).nw hS)
 refine Aa7 hS ?_;intro w hS
 obtain ⟨t3,aa,h⟩:=bnd h
 refine Bj8 H hS (g.mono tl1) (qy.mono tl1) aa ?_;rintro m n o w hS
 refine ⟨_,_,_,rfl,?_⟩
 obtain ⟨t4,ab,h⟩:=bnd h
 refine Bj8 H hS (i.mono tl2) (vp.mono tl2) ab ?_;rintro a2 m2 c2 w hS
 refine ⟨_,_,_,rfl,?_⟩
 obtain ⟨o3,p,c3⟩:=bnd h
 refine Aa9 (fun s w=>∃ (a:List Int),a=o3∧s=(())∧Ho w0 w ((sl m n o (List.map (AA .u32) a) N.Hq9)::(cl r_0 [b_0,s_0] N.Hr0)::L)) (fun J3 hJ3=>?_) ?_
 ·
  have h:=p
  refine Ab4 (fun s w t=>∃ (b:Int) (c:List Int),(b,c)=t∧s=(b,())∧Ho w0 w ((sl a2 m2 c2 (List.map (AA .u32) t4) N.Hq9)::(sl m n o (List.map (AA .u32) c) N.Hq9)::(cl r_0 [b_0,s_0] N.Hr0)::L)) ?_ h ⟨_,_,rfl,rfl,hS⟩
  clear h hS
  rintro s w t X q ⟨b,c,rfl,rfl,hS⟩ h hX hO
  unfold Bd0 at h
  try dsimp only
  refine Aa4 h ?_ ?_<;>intro hc h
  ·
   obtain ⟨t8,ac,h⟩:=bnd h
   obtain ⟨r,vx,ad⟩:=atE ac
   refine Ad6 ((Ent.sl mp1).nw hS) r vx ad ?_;intro b5 ae
   refine ⟨_,Ab8 ((Ent.sl mp1).nw hS) ae r,?_⟩
   obtain ⟨t9,af,h⟩:=bnd h
   obtain ⟨u,ya,ag⟩:=atE af
   refine Ad6 ((Ent.sl mp0).nw hS) u ya ag ?_;intro b7 ah
   refine ⟨_,Ab8 ((Ent.sl mp0).nw hS) ah u,?_⟩
   obtain ⟨am,ai,h⟩:=bnd h
   obtain ⟨aj,vz,v⟩:=atE ai
   refine Ad6 ((Ent.sl mp1).nw hS) aj vz v ?_;intro b9 ak
   refine Aa7 hS ?_;intro w hS
   replace hS:=ro1 hS
   obtain ⟨an,al,h⟩:=bnd h
   obtain rfl:=Aa0 al
   refine Aw7 hS ak v ?_;intro w hS
   refine Aa7 hS ?_;intro w hS
   obtain rfl:=Aa0 h
   exact hX _ rfl _ _ ⟨_,_,rfl,rfl,(hS.pick (A:=[_,_,_]) [1,0,0] rfl)⟩
  obtain rfl:=Aa0 h
  have h:=congrArg some (hO _ rfl)
  obtain rfl:=Aa0 h
  exact hJ3 _ _ ⟨_,rfl,rfl,(hS.pick (A:=[_,_,_]) [1,1] rfl)⟩
 clear p hS
 rintro s w ⟨a,rfl,rfl,hS⟩
 have h:=c3
 try dsimp only
 replace hS:=ro1 hS
 obtain ⟨⟨ao,ap⟩,x,h⟩:=bnd h
 refine Df0 H hS x ?_;clear hS x;rintro aq ar au w hS
 refine ⟨_,rfl,?_⟩
 cases Aa0 h
 exact hK _ _ _ _ hS
end Go.Eng
