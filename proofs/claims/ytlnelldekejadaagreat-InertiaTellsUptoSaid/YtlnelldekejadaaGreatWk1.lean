/-
 Each function comes to what its function of plain Lean says, printed by a program of the session. No condition.
-/
import Derived.Test.YtlnelldekejadaaGreatTp
import Derived.Test.YtlnelldekejadaaGreatSh
import Derived.Test.YtlnelldekejadaaGreatTw5
import Derived.Test.YtlnelldekejadaaGreatBgW
import Derived.Test.YtlnelldekejadaaGreatLentU
import Derived.Test.YtlnelldekejadaaGreatBitC
set_option linter.all false
set_option maxRecDepth 100000
set_option maxHeartbeats 4000000
open Go.Value renaming int→AA
namespace Go.Eng
open Go
open Go.IntKind (i64 u64 u32 u8)
variable {N:Nums} {P:Program} (H:AllOk N P) {w0 w:World} {L:List It} {K:KV}
include H
theorem Dt0 {qd qb qf qk qm} {H0_2:List Hd} {a:List Dy} {u0} (hS:Ho w0 w L) (qz:Ent L (rdA (dyC a H0_2) qf (qk*3) (qm*3))) (b:AllD L a H0_2) (h:Bd6 qd qb a=some u0) (hK:∀ f,Ho w0 f L→K (.bool u0) f):Aa1 P N.Hm3 #[.agg #[.int .i64 qd,.int .i64 qb,.slice qf qk qm]] w K:=by
 refine H.w16_great qd qb qf qk qm w _ ?_
 unfold Cv2
 unfold Bd6 at h
 try dsimp only
 refine Ab2 hS ?_;intro g w hS
 obtain ⟨j,i,k⟩:=bnd h
 refine Aa9 (fun s w=>∃ (c:Int),c=j∧s=(c,())∧Ho w0 w ((cl g [.int .i64 qd,.int .i64 qb,.slice qf qk qm] N.Hs3)::L)) (fun x hJ2=>?_) ?_
 ·
  have h:=i
  refine Ab4 (fun s w t=>∃ (d:Int) (e:Int),(d,e)=t∧s=(d,e,())∧Ho w0 w ((cl g [.int .i64 qd,.int .i64 qb,.slice qf qk qm] N.Hs3)::L)) ?_ h ⟨_,_,rfl,rfl,hS⟩
  clear h hS
  rintro s w t X q ⟨d,e,rfl,rfl,hS⟩ h hX hO
  unfold Ay5 at h
  try dsimp only
  refine ⟨_,_,_,hS.cel mp0 rfl,?_⟩
  obtain ⟨y,l,h⟩:=bnd h
  obtain rfl:=Eu8 l b.len ((qz.mono tl1).nw hS)
  refine Aa4 h ?_ ?_<;>intro hc h
  ·
   refine Aa4 h ?_ ?_<;>intro hc h
   ·
    refine ⟨_,_,_,hS.cel mp0 rfl,?_⟩
    obtain ⟨z,m,h⟩:=bnd h
    obtain ⟨aa,n,o,vu,p,r⟩:=AllD.atE b m
    refine Ah3 b.len ((qz.mono tl1).nw hS) vu p ?_;intro b4 u
    refine ⟨_,_,_,(Bm9 ((qz.mono tl1).nw hS) u o n),?_⟩
    obtain ⟨t6,v,h⟩:=bnd h
    obtain rfl:=Ai1 v ((r.mono tl1).nw hS)
    obtain rfl:=Aa0 h
    exact hX _ rfl _ _ ⟨_,_,rfl,rfl,hS⟩
   obtain rfl:=Aa0 h
   have h:=congrArg some (hO _ rfl)
   exact hJ2 _ _ ⟨_,Aa0 h,rfl,hS⟩
  obtain rfl:=Aa0 h
  have h:=congrArg some (hO _ rfl)
  exact hJ2 _ _ ⟨_,Aa0 h,rfl,hS⟩
 clear i hS
 rintro s w ⟨c,rfl,rfl,hS⟩
 have h:=k
 try dsimp only
 refine ⟨_,hS.cel mp0 rfl,?_⟩
 refine Aa4 h ?_ ?_<;>intro hc h
 ·
  refine ⟨_,hS.cel mp0 rfl,?_⟩
  refine Aa4 h ?_ ?_<;>intro hc h
  ·
   cases Aa0 h
   exact hK _ (hS.pick (A:=[_]) [] rfl)
  cases Aa0 h
  exact hK _ (hS.pick (A:=[_]) [] rfl)
 cases Aa0 h
 exact hK _ (hS.pick (A:=[_]) [] rfl)
theorem Al0 {a qj qq l0 u0} (hS:Ho w0 w L) (qx:EU L l0 a qj qq) (h:Ag3 l0=some u0) (hK:∀ (a0:OA) (d e:Nat) (f:World),Ho w0 f ((sl a0 d e (List.map (AA .u64) u0) N.Hr2)::L)→K (.slice a0 d e) f):Aa1 P N.Hj4 #[.slice a qj qq] w K:=by
 refine H.r02_NatTrim a qj qq w _ ?_
 unfold Bx4
 unfold Ag3 at h
 try dsimp only
 obtain ⟨v,k,h⟩:=bnd h
 obtain rfl:=Ai1 k (qx.nw hS)
 obtain ⟨l,g,m⟩:=bnd h
 refine Aa9 (fun s w=>∃ (b:Int),b=l∧s=(b,())∧Ho w0 w L) (fun x hJ1=>?_) ?_
 ·
  have h:=g
  refine Ab4 (fun s w t=>∃ (c:Int),c=t∧s=(c,())∧Ho w0 w L) ?_ h ⟨_,rfl,rfl,hS⟩
  clear h hS
  rintro s w t X q ⟨c,rfl,rfl,hS⟩ h hX hO
  unfold Ah8 at h
  try dsimp only
  refine Aa4 h ?_ ?_<;>intro hc h
  ·
   obtain ⟨y,n,h⟩:=bnd h
   obtain ⟨i,vo,o⟩:=atE n
   refine Ad6 (qx.nw hS) i vo o ?_;intro z p
   refine ⟨_,Ab8 (qx.nw hS) p i,?_⟩
   refine Aa4 h ?_ ?_<;>intro hc h
   ·
    obtain rfl:=Aa0 h
    exact hX _ rfl _ _ ⟨_,rfl,rfl,hS⟩
   obtain rfl:=Aa0 h
   have h:=congrArg some (hO _ rfl)
   exact hJ1 _ _ ⟨_,Aa0 h,rfl,hS⟩
  obtain rfl:=Aa0 h
  have h:=congrArg some (hO _ rfl)
  exact hJ1 _ _ ⟨_,Aa0 h,rfl,hS⟩
 clear g hS
 rintro s w ⟨b,rfl,rfl,hS⟩
 have h:=m
 try dsimp only
 obtain ⟨t5,r,h⟩:=bnd h
 obtain ⟨rfl,zd,yr,yt⟩:=Dm9 r
 have yu:=(qx.nw hS).hiCap yt
 refine ⟨yr,yu,?_⟩
 obtain ⟨t6,u,h⟩:=bnd h
 obtain ⟨rfl,j⟩:=Eq9 u
 replace hS:=hS.none (α:=Int) (enc:=(AA .u64)) (t:=N.Hr2)
 refine Bv8 hS j ((Ent.upto (qx.mono tl1) yr yt).nw hS) (fun _=>rfl) rfl ?_;clear hS j;intro a5 c5 w hS
 cases Aa0 h
 exact hK _ _ _ _ hS
theorem Dt6 {a u0} (hS:Ho w0 w L)  (h:Bw6 a=some u0) (hK:∀ (a0:OA) (b c:Nat) (d:World),Ho w0 d ((sl a0 b c (List.map (AA .u64) u0) N.Hr2)::L)→K (.slice a0 b c) d):Aa1 P N.Hm5 #[.int .u64 a] w K:=by
 refine H.r02_NatOf a w _ ?_
 unfold Cy0
 unfold Bw6 at h
 try dsimp only
 obtain ⟨e,f,h⟩:=bnd h
 obtain rfl:([a]:List Int)=e:=Aa0 f
 refine Ba4 (ks:=[a]) (enc:=(AA .u64)) (m:=1) hS rfl rfl ?_;intro i w hS
 obtain ⟨j,g,h⟩:=bnd h
 refine Al0 H hS (Ent.sl mp0) g ?_;rintro k l n w hS
 refine ⟨_,_,_,rfl,?_⟩
 cases Aa0 h
 exact hK _ _ _ _ (hS.pick (A:=[_,_]) [0] rfl)
theorem Am7 {a u0 u1 u2} (hS:Ho w0 w L)  (h:Ah9 a=some (u0,u1,u2)) (hK:∀ (c:OA) (d e:Nat) (f:World),Ho w0 f ((sl c d e (List.map (AA .u64) u1) N.Hr2)::L)→K (.agg #[.bool u0,.slice c d e,.int .i64 u2]) f):Aa1 P N.Hl8 #[.int .i64 a] w K:=by
 refine H.r02_Whole a w _ ?_
 unfold Cv9
 unfold Ah9 at h
 try dsimp only
 refine Ab2 hS ?_;intro i w hS
 refine Ab2 hS ?_;intro j w hS
 refine Aa8 hS rfl rfl ?_;intro w hS
 refine Aa8 hS rfl rfl ?_;intro w hS
 refine Aa8 hS rfl rfl ?_;intro w hS
 obtain ⟨k,g,l⟩:=bnd h
 refine Aa9 (fun s w=>∃ (b:Int),b=k∧s=(b,())∧Ho w0 w ((cl j [.bool (decide (a<0)),.slice none 0 0,.int .i64 0] N.Hp2)::(cl i [.bool false,.slice none 0 0,.int .i64 0] N.Hp2)::L)) (fun n hJ3=>?_) ?_
 ·
  have h:=g
  refine Aa4 h ?_ ?_<;>intro hc h
  ·
   exact hJ3 _ _ ⟨_,Aa0 h,rfl,hS⟩
  exact hJ3 _ _ ⟨_,Aa0 h,rfl,hS⟩
 clear g hS
 rintro s w ⟨b,rfl,rfl,hS⟩
 have h:=l
 try dsimp only
 obtain ⟨o,m,h⟩:=bnd h
 refine Dt6 H hS  m ?_;rintro p q r w hS
 refine ⟨_,_,_,rfl,?_⟩
 replace hS:=ro1 hS
 refine Aa8 hS rfl rfl ?_;intro w hS
 refine ⟨_,hS.cel mp0 rfl,_,_,_,hS.cel mp0 rfl,_,hS.cel mp0 rfl,?_⟩
 replace hS:=ro2 hS
 refine Aa8 hS rfl rfl ?_;intro w hS
 refine Aa8 hS rfl rfl ?_;intro w hS
 refine Aa8 hS rfl rfl ?_;intro w hS
 refine ⟨_,hS.cel mp0 rfl,_,_,_,hS.cel mp0 rfl,_,hS.cel mp0 rfl,?_⟩
 cases Aa0 h
 exact hK _ _ _ _ (hS.pick (A:=[_,_,_]) [2] rfl)
theorem Cf5 {a qj qq l0 d} (hS:Ho w0 w L) (qx:EU L l0 a qj qq) (h:Be2 l0=some d) (hK:∀ e,Ho w0 e L→K (.slice (Ak1 a 0 qq 1) d.toNat qq) e):Aa1 P N.Hp3 #[.slice a qj qq] w K:=by
 refine H.r02_low a qj qq w _ ?_
 unfold Dt1
 unfold Be2 at h
 try dsimp only
 obtain ⟨p,i,h⟩:=bnd h
 obtain rfl:=Ai1 i (qx.nw hS)
 obtain ⟨j,f,k⟩:=bnd h
 refine Aa9 (fun s w=>∃ (b:Int),b=j∧s=(b,())∧Ho w0 w L) (fun r hJ1=>?_) ?_
 ·
  have h:=f
  refine Ab4 (fun s w t=>∃ (c:Int),c=t∧s=(c,())∧Ho w0 w L) ?_ h ⟨_,rfl,rfl,hS⟩
  clear h hS
  rintro s w t X q ⟨c,rfl,rfl,hS⟩ h hX hO
  unfold Bp8 at h
  try dsimp only
  refine Aa4 h ?_ ?_<;>intro hc h
  ·
   obtain ⟨u,l,h⟩:=bnd h
   obtain ⟨g,vo,m⟩:=atE l
   refine Ad6 (qx.nw hS) g vo m ?_;intro v n
   refine ⟨_,Ab8 (qx.nw hS) n g,?_⟩
   refine Aa4 h ?_ ?_<;>intro hc h
   ·
    obtain rfl:=Aa0 h
    exact hX _ rfl _ _ ⟨_,rfl,rfl,hS⟩
   obtain rfl:=Aa0 h
   have h:=congrArg some (hO _ rfl)
   exact hJ1 _ _ ⟨_,Aa0 h,rfl,hS⟩
  obtain rfl:=Aa0 h
  have h:=congrArg some (hO _ rfl)
  exact hJ1 _ _ ⟨_,Aa0 h,rfl,hS⟩
 clear f hS
 rintro s w ⟨b,rfl,rfl,hS⟩
 have h:=k
 try dsimp only
 obtain ⟨x,o,h⟩:=bnd h
 obtain ⟨rfl,zd,yr,yt⟩:=Dm9 o
 have yu:=(qx.nw hS).hiCap yt
 refine ⟨yr,yu,?_⟩
 cases Aa0 h
 exact hK _ hS
theorem Ak5 {a qj qq l0 u0} (hS:Ho w0 w L) (qx:EU L l0 a qj qq) (h:Ag8 l0=some u0) (hK:∀ (a0:OA) (l n:Nat) (o:World),Ho w0 o ((sl a0 l n (List.map (AA .u64) u0) N.Hr2)::L)→K (.slice a0 l n) o):Aa1 P N.Hk9 #[.slice a qj qq] w K:=by
 refine H.r02_halves a qj qq w _ ?_
 unfold Ck8
 unfold Ag8 at h
 try dsimp only
 obtain ⟨z,p,c4⟩:=bnd h
 refine Aa9 (fun s w=>∃ (b:OA) (c:Nat) (d:Nat) (e:List Int),e=z∧s=((b,c,d),())∧Ho w0 w ((sl b c d (List.map (AA .u64) e) N.Hr2)::L)) (fun J4 hJ4=>?_) ?_
 ·
  have h:=p
  replace hS:=hS.none (α:=Int) (enc:=(AA .u64)) (t:=N.Hr2)
  refine Ab4 (fun s w t=>∃ (f:Int) (g:OA) (i:Nat) (j:Nat) (k:List Int),(f,k)=t∧s=((g,i,j),f,())∧Ho w0 w ((sl g i j (List.map (AA .u64) k) N.Hr2)::L)) ?_ h ⟨_,_,_,_,_,rfl,rfl,hS⟩
  clear h hS
  rintro s w t X q ⟨f,g,i,j,k,rfl,rfl,hS⟩ h hX hO
  unfold Al4 at h
  try dsimp only
  obtain ⟨t4,aa,h⟩:=bnd h
  obtain rfl:=Ai1 aa ((qx.mono tl1).nw hS)
  refine Aa4 h ?_ ?_<;>intro hc h
  ·
   obtain ⟨r,ab,h⟩:=bnd h
   obtain ⟨u,vz,ac⟩:=atE ab
   refine Ad6 ((qx.mono tl1).nw hS) u vz ac ?_;intro b9 ad
   refine ⟨_,Ab8 ((qx.mono tl1).nw hS) ad u,?_⟩
   refine ⟨by decide,?_⟩
   obtain ⟨v,ae,h⟩:=bnd h
   obtain ⟨x,yb,af⟩:=atE ae
   refine Ad6 ((qx.mono tl1).nw hS) x yb af ?_;intro al ag
   refine ⟨_,Ab8 ((qx.mono tl1).nw hS) ag x,?_⟩
   refine ⟨by decide,?_⟩
   refine Aa7 hS ?_;intro w hS
   obtain ⟨t7,ah,h⟩:=bnd h
   obtain rfl:([(r.tmod 4294967296),(u64.wrap (v.tdiv 4294967296))]:List Int)=t7:=Aa0 ah
   refine Ba4 (ks:=[(r.tmod 4294967296),(u64.wrap (v.tdiv 4294967296))]) (enc:=(AA .u64)) (m:=2) hS rfl rfl ?_;intro am w hS
   refine Aa7 hS ?_;intro w hS
   obtain ⟨t8,ai,h⟩:=bnd h
   obtain ⟨rfl,y⟩:=Eq9 ai
   replace hS:=ro1 hS
   refine Bv8 hS y ((Ent.sl mp1).nw hS) (fun _=>rfl) rfl ?_;clear hS y;intro an ao w hS
   refine Aa7 hS ?_;intro w hS
   obtain rfl:=Aa0 h
   exact hX _ rfl _ _ ⟨_,_,_,_,_,rfl,rfl,(hS.pick (A:=[_,_]) [0] rfl)⟩
  obtain rfl:=Aa0 h
  have h:=congrArg some (hO _ rfl)
  exact hJ4 _ _ ⟨_,_,_,_,Aa0 h,rfl,hS⟩
 clear p hS
 rintro s w ⟨b,c,d,e,rfl,rfl,hS⟩
 have h:=c4
 try dsimp only
 obtain ⟨t9,aj,h⟩:=bnd h
 refine Cf5 H hS (Ent.sl mp0) aj ?_;rintro w hS
 refine ⟨_,_,_,rfl,?_⟩
 obtain ⟨ap,ak,h⟩:=bnd h
 obtain ⟨rfl,gr,gu,yg⟩:=Dm9 ak
 have gw:=((Ent.sl mp0).nw hS).hiCap yg
 replace hS:=Ho.cut hS yg
 cases Aa0 h
 exact hK _ _ _ _ hS
theorem Dv9 {a qj qq l0 b u0 u1} (hS:Ho w0 w L) (qx:EU L l0 a qj qq) (h:Bc8 l0 b=some (u0,u1)) (hK:∀ (a0:OA) (i j:Nat) (k:World),Ho w0 k ((sl a0 i j (List.map (AA .u64) u0) N.Hr2)::L)→K (.tuple #[.slice a0 i j,.int .u64 u1]) k):Aa1 P N.Hm7 #[.slice a qj qq,.int .u64 b] w K:=by
 refine H.r02_short a qj qq b w _ ?_
 unfold Cr4
 unfold Bc8 at h
 try dsimp only
 obtain ⟨t1,r,h⟩:=bnd h
 obtain rfl:=Ai1 r (qx.nw hS)
 obtain ⟨t2,u,h⟩:=bnd h
 obtain ⟨rfl,l⟩:=mkE u
 refine Ew9 (enc:=(AA .u64)) hS l rfl ?_;clear hS l;intro m w hS
 obtain ⟨t3,v,h⟩:=bnd h
 obtain rfl:=Ai1 v ((qx.mono tl1).nw hS)
 obtain ⟨x,n,y⟩:=bnd h
 refine Aa9 (fun s w=>∃ (c:Int) (d:List Int),(c,d)=x∧s=(c,())∧Ho w0 w ((sl (some ⟨m,0,none⟩) (((qj:Int)).toNat) (((qj:Int)).toNat) (List.map (AA .u64) d) N.Hr2)::L)) (fun J2 hJ2=>?_) ?_
 ·
  have h:=n
  refine Ab4 (fun s w t=>∃ (e:Int) (f:Int) (g:List Int),(e,f,g)=t∧s=(e,f,())∧Ho w0 w ((sl (some ⟨m,0,none⟩) (((qj:Int)).toNat) (((qj:Int)).toNat) (List.map (AA .u64) g) N.Hr2)::L)) ?_ h ⟨_,_,_,rfl,rfl,hS⟩
  clear h hS
  rintro s w t X q ⟨e,f,g,rfl,rfl,hS⟩ h hX hO
  unfold Ao3 at h
  try dsimp only
  refine Aa4 h ?_ ?_<;>intro hc h
  ·
   obtain ⟨t9,z,h⟩:=bnd h
   obtain ⟨o,vu,aa⟩:=atE z
   refine Ad6 ((qx.mono tl1).nw hS) o vu aa ?_;intro b4 ab
   refine ⟨_,Ab8 ((qx.mono tl1).nw hS) ab o,?_⟩
   obtain ⟨aj,ac,h⟩:=bnd h
   refine ⟨Fo2 ac,?_⟩
   obtain ⟨ak,ad,h⟩:=bnd h
   obtain ⟨ae,vw,p⟩:=atE ad
   refine Av1 ((Ent.sl mp0).nw hS) ae vw p ?_
   obtain ⟨al,af,h⟩:=bnd h
   obtain rfl:=Aa0 af
   refine Aw7 hS rfl p ?_;intro w hS
   obtain ⟨am,ag,h⟩:=bnd h
   refine ⟨Fo2 ag,?_⟩
   obtain rfl:=Aa0 h
   exact hX _ rfl _ _ ⟨_,_,_,rfl,rfl,hS⟩
  obtain rfl:=Aa0 h
  have h:=congrArg some (hO _ rfl)
  exact hJ2 _ _ ⟨_,_,Aa0 h,rfl,hS⟩
 clear n hS
 rintro s w ⟨c,d,rfl,rfl,hS⟩
 have h:=y
 try dsimp only
 obtain ⟨an,ah,h⟩:=bnd h
 refine Cf5 H hS (Ent.sl mp0) ah ?_;rintro w hS
 refine ⟨_,_,_,rfl,?_⟩
 obtain ⟨ao,ai,h⟩:=bnd h
 obtain ⟨rfl,zv,zw,yz⟩:=Dm9 ai
 have zx:=((Ent.sl mp0).nw hS).hiCap yz
 replace hS:=Ho.cut hS yz
 cases Aa0 h
 exact hK _ _ _ _ hS
theorem Az1 {f qj qq l0 u0} (hS:Ho w0 w L) (qx:EU L l0 f qj qq) (h:An2 l0=some u0) (hK:∀ (a0:OA) (n o:Nat) (p:World),Ho w0 p ((sl a0 n o (List.map (AA .u64) u0) N.Hr2)::L)→K (.slice a0 n o) p):Aa1 P N.Hm9 #[.slice f qj qq] w K:=by
 refine H.r02_limbs f qj qq w _ ?_
 unfold Cp5
 unfold An2 at h
 try dsimp only
 obtain ⟨z,r,c4⟩:=bnd h
 refine Aa9 (fun s w=>∃ (g:OA) (i:Nat) (j:Nat) (k:List Int),k=z∧s=((g,i,j),())∧Ho w0 w ((sl g i j (List.map (AA .u64) k) N.Hr2)::L)) (fun J4 hJ4=>?_) ?_
 ·
  have h:=r
  replace hS:=hS.none (α:=Int) (enc:=(AA .u64)) (t:=N.Hr2)
  refine Ab4 (fun s w t=>∃ (l:Int) (b:OA) (c:Nat) (d:Nat) (e:List Int),(l,e)=t∧s=((b,c,d),l,())∧Ho w0 w ((sl b c d (List.map (AA .u64) e) N.Hr2)::L)) ?_ h ⟨_,_,_,_,_,rfl,rfl,hS⟩
  clear h hS
  rintro s w t X q ⟨l,b,c,d,e,rfl,rfl,hS⟩ h hX hO
  unfold Ao4 at h
  try dsimp only
  obtain ⟨t4,aa,h⟩:=bnd h
  obtain rfl:=Ai1 aa ((qx.mono tl1).nw hS)
  refine Aa4 h ?_ ?_<;>intro hc h
  ·
   obtain ⟨t5,ab,h⟩:=bnd h
   obtain ⟨u,vz,ac⟩:=atE ab
   refine Ad6 ((qx.mono tl1).nw hS) u vz ac ?_;intro b9 ad
   refine ⟨_,Ab8 ((qx.mono tl1).nw hS) ad u,?_⟩
   obtain ⟨t6,ae,h⟩:=bnd h
   obtain rfl:=Ai1 ae ((qx.mono tl1).nw hS)
   obtain ⟨af,v,ag⟩:=bnd h
   refine Aa9 (fun s w=>∃ (a:Int),a=af∧s=(a,())∧Ho w0 w ((sl b c d (List.map (AA .u64) e) N.Hr2)::L)) (fun an hJ10=>?_) ?_
   ·
    have h:=v
    refine Aa4 h ?_ ?_<;>intro hc h
    ·
     obtain ⟨t8,ah,h⟩:=bnd h
     obtain ⟨x,vy,ai⟩:=atE ah
     refine Ad6 ((qx.mono tl1).nw hS) x vy ai ?_;intro ao aj
     refine ⟨_,Ab8 ((qx.mono tl1).nw hS) aj x,?_⟩
     exact hJ10 _ _ ⟨_,Aa0 h,rfl,hS⟩
    exact hJ10 _ _ ⟨_,Aa0 h,rfl,hS⟩
   clear v hS
   rintro s w ⟨a,rfl,rfl,hS⟩
   have h:=ag
   try dsimp only
   obtain ⟨t9,ak,h⟩:=bnd h
   obtain rfl:([a]:List Int)=t9:=Aa0 ak
   refine Ba4 (ks:=[a]) (enc:=(AA .u64)) (m:=1) hS rfl rfl ?_;intro ap w hS
   obtain ⟨aq,al,h⟩:=bnd h
   obtain ⟨rfl,y⟩:=Eq9 al
   replace hS:=ro1 hS
   refine Bv8 hS y ((Ent.sl mp1).nw hS) (fun _=>rfl) rfl ?_;clear hS y;intro ar au w hS
   obtain rfl:=Aa0 h
   exact hX _ rfl _ _ ⟨_,_,_,_,_,rfl,rfl,(hS.pick (A:=[_,_]) [0] rfl)⟩
  obtain rfl:=Aa0 h
  have h:=congrArg some (hO _ rfl)
  exact hJ4 _ _ ⟨_,_,_,_,Aa0 h,rfl,hS⟩
 clear r hS
 rintro s w ⟨g,i,j,k,rfl,rfl,hS⟩
 have h:=c4
 try dsimp only
 obtain ⟨av,am,h⟩:=bnd h
 refine Al0 H hS (Ent.sl mp0) am ?_;rintro aw ax ay w hS
 refine ⟨_,_,_,rfl,?_⟩
 cases Aa0 h
 exact hK _ _ _ _ (hS.pick (A:=[_,_]) [0] rfl)
theorem Db6 {e qj qq l0 f u0 u1} (hS:Ho w0 w L) (qx:EU L l0 e qj qq) (h:Av2 l0 f=some (u0,u1)) (hK:∀ (a0:OA) (n o:Nat) (p:World),Ho w0 p ((sl a0 n o (List.map (AA .u64) u0) N.Hr2)::L)→K (.tuple #[.slice a0 n o,.bool u1]) p):Aa1 P N.Hi9 #[.slice e qj qq,.int .i64 f] w K:=by
 refine H.r02_NatDown e qj qq f w _ ?_
 unfold Bz0
 unfold Av2 at h
 try dsimp only
 obtain ⟨a,y,h⟩:=bnd h
 refine Ak5 H hS qx y ?_;rintro b c d w hS
 refine ⟨_,_,_,rfl,?_⟩
 obtain ⟨z,r,c2⟩:=bnd h
 refine Aa9 (fun s w=>∃ (g:Bool),g=z∧s=(g,())∧Ho w0 w ((sl b c d (List.map (AA .u64) a) N.Hr2)::L)) (fun J2 hJ2=>?_) ?_
 ·
  have h:=r
  refine Ab4 (fun s w t=>∃ (i:Bool) (j:Int),(i,j)=t∧s=(i,j,())∧Ho w0 w ((sl b c d (List.map (AA .u64) a) N.Hr2)::L)) ?_ h ⟨_,_,rfl,rfl,hS⟩
  clear h hS
  rintro s w t X q ⟨i,j,rfl,rfl,hS⟩ h hX hO
  unfold Aj6 at h
  try dsimp only
  refine ⟨by decide,?_⟩
  refine Aa4 h ?_ ?_<;>intro hc h
  ·
   obtain ⟨t5,aa,h⟩:=bnd h
   obtain rfl:=Ai1 aa ((Ent.sl mp0).nw hS)
   refine Aa4 h ?_ ?_<;>intro hc h
   ·
    refine Aa4 h ?_ ?_<;>intro hc h
    ·
     obtain ⟨t6,ab,h⟩:=bnd h
     obtain ⟨u,vu,ac⟩:=atE ab
     refine Ad6 ((Ent.sl mp0).nw hS) u vu ac ?_;intro b4 ad
     refine ⟨_,Ab8 ((Ent.sl mp0).nw hS) ad u,?_⟩
     obtain rfl:=Aa0 h
     exact hX _ rfl _ _ ⟨_,_,rfl,rfl,hS⟩
    obtain rfl:=Aa0 h
    exact hX _ rfl _ _ ⟨_,_,rfl,rfl,hS⟩
   obtain rfl:=Aa0 h
   have h:=congrArg some (hO _ rfl)
   exact hJ2 _ _ ⟨_,Aa0 h,rfl,hS⟩
  obtain rfl:=Aa0 h
  have h:=congrArg some (hO _ rfl)
  exact hJ2 _ _ ⟨_,Aa0 h,rfl,hS⟩
 clear r hS
 rintro s w ⟨g,rfl,rfl,hS⟩
 have h:=c2
 try dsimp only
 refine ⟨by decide,?_⟩
 obtain ⟨t7,ae,h⟩:=bnd h
 obtain rfl:=Ai1 ae ((Ent.sl mp0).nw hS)
 refine Aa4 h ?_ ?_<;>intro hc h
 ·
  replace hS:=hS.none (α:=Int) (enc:=(AA .u64)) (t:=N.Hr2)
  cases Aa0 h
  exact hK _ _ _ _ (hS.pick (A:=[_,_]) [0] rfl)
 obtain ⟨o5,v,c5⟩:=bnd h
 refine Aa9 (fun s w=>∃ (k:Int),k=o5∧s=(k,())∧Ho w0 w ((sl b c d (List.map (AA .u64) a) N.Hr2)::L)) (fun J5 hJ5=>?_) ?_
 ·
  have h:=v
  refine Ab4 (fun s w t=>∃ (l:Int) (m:Int),(l,m)=t∧s=(l,m,())∧Ho w0 w ((sl b c d (List.map (AA .u64) a) N.Hr2)::L)) ?_ h ⟨_,_,rfl,rfl,hS⟩
  clear h hS
  rintro s w t X q ⟨l,m,rfl,rfl,hS⟩ h hX hO
  unfold As7 at h
  try dsimp only
  refine ⟨by decide,?_⟩
  refine Aa4 h ?_ ?_<;>intro hc h
  ·
   obtain rfl:=Aa0 h
   exact hX _ rfl _ _ ⟨_,_,rfl,rfl,hS⟩
  obtain rfl:=Aa0 h
  have h:=congrArg some (hO _ rfl)
  exact hJ5 _ _ ⟨_,Aa0 h,rfl,hS⟩
 clear v hS
 rintro s w ⟨k,rfl,rfl,hS⟩
 have h:=c5
 try dsimp only
 refine ⟨by decide,?_⟩
 obtain ⟨ai,af,h⟩:=bnd h
 obtain rfl:=Ai1 af ((Ent.sl mp0).nw hS)
 obtain ⟨aj,ag,h⟩:=bnd h
 obtain ⟨rfl,zg,zh,bv⟩:=Dm9 ag
 refine ⟨(by first | exact zg | omega),(by first | exact zh | omega),?_⟩
 obtain ⟨⟨ak,al⟩,x,h⟩:=bnd h
 refine Dv9 H hS (Ent.from (Ent.sl mp0) zg zh) x ?_;clear hS x;rintro a7 m7 c7 w hS
 refine ⟨_,_,_,_,rfl,?_⟩
 obtain ⟨am,ah,h⟩:=bnd h
 refine Az1 H hS (Ent.sl mp0) ah ?_;rintro a8 m8 c8 w hS
 refine ⟨_,_,_,rfl,?_⟩
 refine Aa4 h ?_ ?_<;>intro hc h
 ·
  cases Aa0 h
  exact hK _ _ _ _ (hS.pick (A:=[_,_,_]) [0] rfl)
 cases Aa0 h
 exact hK _ _ _ _ (hS.pick (A:=[_,_,_]) [0] rfl)
theorem Eg7 {qd qb qe qg l0_1 qf u0 u1 u2 f} (hS:Ho w0 w L) (qr:EU L l0_1 qb qe qg) (h:Bh5 qd l0_1 qf=some (u0,u1,u2,f)) (hK:∀ (g:OA) (i j:Nat) (k:World),Ho w0 k ((sl g i j (List.map (AA .u64) u1) N.Hr2)::L)→K (.tuple #[.agg #[.bool u0,.slice g i j,.int .i64 u2],.int .i64 f]) k):Aa1 P N.Ho8 #[.agg #[.bool qd,.slice qb qe qg,.int .i64 qf]] w K:=by
 refine H.r02_Norm qd qb qe qg qf w _ ?_
 unfold Dh7
 unfold Bh5 at h
 try dsimp only
 refine Ab2 hS ?_;intro a w hS
 refine Ab2 hS ?_;intro b w hS
 refine ⟨_,_,_,hS.cel mp1 rfl,?_⟩
 obtain ⟨l,x,h⟩:=bnd h
 refine Al0 H hS (qr.mono tl2) x ?_;rintro m n o w hS
 refine ⟨_,_,_,rfl,?_⟩
 obtain ⟨t2,y,h⟩:=bnd h
 obtain rfl:=Ai1 y ((Ent.sl mp0).nw hS)
 refine Aa4 h ?_ ?_<;>intro hc h
 ·
  replace hS:=ro1 hS
  refine Aa8 hS rfl rfl ?_;intro w hS
  refine Aa8 hS rfl rfl ?_;intro w hS
  refine Aa8 hS rfl rfl ?_;intro w hS
  refine ⟨_,hS.cel mp0 rfl,_,_,_,hS.cel mp0 rfl,_,hS.cel mp0 rfl,?_⟩
  replace hS:=hS.none (α:=Int) (enc:=(AA .u64)) (t:=N.Hr2)
  cases Aa0 h
  exact hK _ _ _ _ (hS.pick (A:=[_,_,_,_]) [0] rfl)
 obtain ⟨z,p,c4⟩:=bnd h
 refine Aa9 (fun s w=>∃ (c:Int),c=z∧s=(c,())∧Ho w0 w ((sl m n o (List.map (AA .u64) l) N.Hr2)::(cl b [.bool false,.slice none 0 0,.int .i64 0] N.Hs7)::(cl a [.bool qd,.slice qb qe qg,.int .i64 qf] N.Hs7)::L)) (fun J4 hJ4=>?_) ?_
 ·
  have h:=p
  refine Ab4 (fun s w t=>∃ (d:Int),d=t∧s=(d,())∧Ho w0 w ((sl m n o (List.map (AA .u64) l) N.Hr2)::(cl b [.bool false,.slice none 0 0,.int .i64 0] N.Hs7)::(cl a [.bool qd,.slice qb qe qg,.int .i64 qf] N.Hs7)::L)) ?_ h ⟨_,rfl,rfl,hS⟩
  clear h hS
  rintro s w t X q ⟨d,rfl,rfl,hS⟩ h hX hO
  unfold Ar9 at h
  try dsimp only
  refine ⟨by decide,?_⟩
  obtain ⟨t5,aa,h⟩:=bnd h
  obtain ⟨r,vw,ab⟩:=atE aa
  refine Ad6 ((Ent.sl mp0).nw hS) r vw ab ?_;intro b6 ac
  refine ⟨_,Ab8 ((Ent.sl mp0).nw hS) ac r,?_⟩
  refine ⟨by decide,?_⟩
  obtain ⟨t6,ad,h⟩:=bnd h
  refine ⟨Gr2 ad,?_⟩
  refine ⟨by decide,?_⟩
  refine Aa4 h ?_ ?_<;>intro hc h
  ·
   obtain rfl:=Aa0 h
   exact hX _ rfl _ _ ⟨_,rfl,rfl,hS⟩
  obtain rfl:=Aa0 h
  have h:=congrArg some (hO _ rfl)
  exact hJ4 _ _ ⟨_,Aa0 h,rfl,hS⟩
 clear p hS
 rintro s w ⟨c,rfl,rfl,hS⟩
 have h:=c4
 try dsimp only
 obtain ⟨⟨t7,t8⟩,u,h⟩:=bnd h
 refine Db6 H hS (Ent.sl mp0) u ?_;clear hS u;rintro a7 m7 c7 w hS
 refine ⟨_,_,_,_,rfl,?_⟩
 obtain ⟨o8,v,c8⟩:=bnd h
 refine Aa9 (fun s w=>∃ (e:Bool),e=o8∧s=(e,())∧Ho w0 w ((sl a7 m7 c7 (List.map (AA .u64) t7) N.Hr2)::(cl b [.bool false,.slice none 0 0,.int .i64 0] N.Hs7)::(cl a [.bool qd,.slice qb qe qg,.int .i64 qf] N.Hs7)::L)) (fun J8 hJ8=>?_) ?_
 ·
  have h:=v
  obtain ⟨af,ae,h⟩:=bnd h
  obtain rfl:=Ai1 ae ((Ent.sl mp0).nw hS)
  refine Aa4 h ?_ ?_<;>intro hc h
  ·
   refine ⟨_,hS.cel mp3 rfl,?_⟩
   refine Aa4 h ?_ ?_<;>intro hc h
   ·
    refine ⟨_,hS.cel mp3 rfl,?_⟩
    refine Aa4 h ?_ ?_<;>intro hc h
    ·
     refine ⟨_,hS.cel mp3 rfl,?_⟩
     obtain rfl:=Aa0 h
     exact hJ8 _ _ ⟨_,rfl,rfl,(hS.pick (A:=[_,_,_,_]) [0,1,1] rfl)⟩
    obtain rfl:=Aa0 h
    exact hJ8 _ _ ⟨_,rfl,rfl,(hS.pick (A:=[_,_,_,_]) [0,1,1] rfl)⟩
   obtain rfl:=Aa0 h
   exact hJ8 _ _ ⟨_,rfl,rfl,(hS.pick (A:=[_,_,_,_]) [0,1,1] rfl)⟩
  obtain rfl:=Aa0 h
  exact hJ8 _ _ ⟨_,rfl,rfl,(hS.pick (A:=[_,_,_,_]) [0,1,1] rfl)⟩
 clear v hS
 rintro s w ⟨e,rfl,rfl,hS⟩
 have h:=c8
 try dsimp only
 refine Aa4 h ?_ ?_<;>intro hc h
 ·
  replace hS:=ro1 hS
  refine Aa8 hS rfl rfl ?_;intro w hS
  refine Aa8 hS rfl rfl ?_;intro w hS
  refine Aa8 hS rfl rfl ?_;intro w hS
  refine ⟨_,hS.cel mp0 rfl,_,_,_,hS.cel mp0 rfl,_,hS.cel mp0 rfl,?_⟩
  replace hS:=hS.none (α:=Int) (enc:=(AA .u64)) (t:=N.Hr2)
  cases Aa0 h
  exact hK _ _ _ _ (hS.pick (A:=[_,_,_,_]) [0] rfl)
 refine ⟨_,hS.cel mp2 rfl,_,hS.cel mp2 rfl,?_⟩
 replace hS:=ro1 hS
 refine Aa8 hS rfl rfl ?_;intro w hS
 refine Aa8 hS rfl rfl ?_;intro w hS
 refine Aa8 hS rfl rfl ?_;intro w hS
 refine ⟨_,hS.cel mp0 rfl,_,_,_,hS.cel mp0 rfl,_,hS.cel mp0 rfl,?_⟩
 cases Aa0 h
 exact hK _ _ _ _ (hS.pick (A:=[_,_,_]) [1] rfl)
theorem Cv3 {qd qb qe qg l0_1 qf u0 u1 u2 a} (hS:Ho w0 w L) (qr:EU L l0_1 qb qe qg) (h:Au3 qd l0_1 qf=some (u0,u1,u2,a)) (hK:∀ (b:OA) (c d:Nat) (e:World),Ho w0 e ((sl b c d (List.map (AA .u64) u1) N.Hr2)::L)→K (.tuple #[.agg #[.bool u0,.slice b c d,.int .i64 u2],.int .i64 a]) e):Aa1 P N.Ho1 #[.agg #[.bool qd,.slice qb qe qg,.int .i64 qf]] w K:=by
 refine H.r02_Told qd qb qe qg qf w _ ?_
 unfold Dd9
 unfold Au3 at h
 try dsimp only
 refine Ab2 hS ?_;intro g w hS
 refine Ab2 hS ?_;intro i w hS
 refine ⟨_,hS.cel mp1 rfl,_,_,_,hS.cel mp1 rfl,_,hS.cel mp1 rfl,?_⟩
 obtain ⟨⟨j,k,l,m⟩,f,h⟩:=bnd h
 refine Eg7 H hS (qr.mono tl2) f ?_;clear hS f;rintro n o p w hS
 refine ⟨_,_,_,_,_,_,rfl,?_⟩
 replace hS:=ro1 hS
 refine Aa8 hS rfl rfl ?_;intro w hS
 refine Aa8 hS rfl rfl ?_;intro w hS
 refine Aa8 hS rfl rfl ?_;intro w hS
 refine ⟨_,hS.cel mp0 rfl,_,_,_,hS.cel mp0 rfl,_,hS.cel mp0 rfl,?_⟩
 cases Aa0 h
 exact hK _ _ _ _ (hS.pick (A:=[_,_,_]) [1] rfl)
theorem Di0 {a u0 u1 u2} (hS:Ho w0 w L)  (h:Bz9 a=some (u0,u1,u2)) (hK:∀ (b:OA) (c d:Nat) (e:World),Ho w0 e ((sl b c d (List.map (AA .u64) u1) N.Hr2)::L)→K (.agg #[.bool u0,.slice b c d,.int .i64 u2]) e):Aa1 P N.Hp4 #[.int .i64 a] w K:=by
 refine H.r02_Int a w _ ?_
 unfold Dr2
 unfold Bz9 at h
 try dsimp only
 refine Ab2 hS ?_;intro i w hS
 obtain ⟨⟨j,k,l⟩,f,h⟩:=bnd h
 refine Am7 H hS  f ?_;clear hS f;rintro m n o w hS
 refine ⟨_,_,_,_,_,rfl,?_⟩
 obtain ⟨⟨p,q,r,s⟩,g,h⟩:=bnd h
 refine Cv3 H hS (Ent.sl mp0) g ?_;clear hS g;rintro t u v w hS
 refine ⟨_,_,_,_,_,_,rfl,?_⟩
 refine Ab2 hS ?_;intro x w hS
 refine Aa8 hS rfl rfl ?_;intro w hS
 refine Aa8 hS rfl rfl ?_;intro w hS
 refine Aa8 hS rfl rfl ?_;intro w hS
 refine ⟨_,hS.cel mp0 rfl,_,_,_,hS.cel mp0 rfl,_,hS.cel mp0 rfl,?_⟩
 replace hS:=ro3 hS
 refine Aa8 hS rfl rfl ?_;intro w hS
 refine Aa8 hS rfl rfl ?_;intro w hS
 refine Aa8 hS rfl rfl ?_;intro w hS
 refine ⟨_,hS.cel mp0 rfl,_,_,_,hS.cel mp0 rfl,_,hS.cel mp0 rfl,?_⟩
 cases Aa0 h
 exact hK _ _ _ _ (hS.pick (A:=[_,_,_,_]) [2] rfl)
theorem Cc6 {b k qu vf l1 u0 u1} {u2:List Dy} (hS:Ho w0 w L) (vg:Ent L (rdA (List.map (AA .i64) l1) k qu vf)) (h:Br6 b l1=some (u0,u1,u2)) (hK:∀ (a2:OA) (n2 c2:Nat) (ad:List Hd) (ae:It) (w1:World),(∀ L1,ae∈L1→AllD L1 u2 ad)→Ho w0 w1 ((sl a2 (n2*3) (c2*3) (dyC u2 ad) N.Hs7)::ae::L)→K (.agg #[.int .i64 u0,.int .i64 u1,.slice a2 n2 c2]) w1):Aa1 P N.Hr9 #[.int .i64 b,.slice k qu vf] w K:=by
 refine H.w16_of b k qu vf w _ ?_
 unfold Er3
 unfold Br6 at h
 try dsimp only
 replace hS:=hS.voidItem
 refine Ab2 hS ?_;intro r1 w hS
 refine Ab2 hS ?_;intro r2 w hS
 refine Aa8 hS rfl rfl ?_;intro w hS
 refine Aa8 hS rfl rfl ?_;intro w hS
 refine Aa8 hS rfl rfl ?_;intro w hS
 obtain ⟨o9,h9,c9⟩:=bnd h
 refine Aa9 (fun s w=>∃ (l:OA) (n:Nat) (o:Nat) (i:List Dy) (p:List Hd) (r:It),i=o9∧s=(())∧AllD [r] i p∧Ho w0 w ((cl r2 [.int .i64 b,.int .i64 b,.slice l n o] N.Hs3)::(cl r1 [.int .i64 0,.int .i64 0,.slice none 0 0] N.Hs3)::(sl l (n*3) (o*3) (dyC i p) N.Hs7)::r::L)) (fun J9 hJ9=>?_) ?_
 ·
  have h:=h9
  replace hS:=hS.noneD (t:=N.Hs7)
  refine Ab4 (fun s w t=>∃ (u:Int) (f:It) (v:OA) (z:Nat) (aa:Nat) (j:List Dy) (ab:List Hd),(u,j)=t∧s=(u,())∧AllD [f] j ab∧Ho w0 w ((cl r2 [.int .i64 b,.int .i64 b,.slice v z aa] N.Hs3)::(cl r1 [.int .i64 0,.int .i64 0,.slice none 0 0] N.Hs3)::(sl v (z*3) (aa*3) (dyC j ab) N.Hs7)::f::L)) ?_ h ⟨_,_,_,_,_,_,_,rfl,rfl,(AllD.nil (L:=[vd])),(hS.pick (A:=[_,_,_,_]) [1,1,0,0] rfl)⟩
  clear h hS
  rintro s w t X q ⟨u,f,v,z,aa,j,ab,rfl,rfl,g,hS⟩ h hX hO
  unfold Cp2 at h
  try dsimp only
  obtain ⟨t4,aj,h⟩:=bnd h
  obtain rfl:=Ai1 aj ((vg.mono tl4).nw hS)
  refine Aa4 h ?_ ?_<;>intro hc h
  ·
   refine ⟨_,_,_,hS.cel mp0 rfl,?_⟩
   obtain ⟨t5,ak,h⟩:=bnd h
   obtain ⟨af,yf,al⟩:=atE ak
   refine Ad6 ((vg.mono tl4).nw hS) af yf al ?_;intro ar am
   refine ⟨_,Ab8 ((vg.mono tl4).nw hS) am af,?_⟩
   refine Aa7 hS ?_;intro w hS
   obtain ⟨⟨t6,a,t8⟩,ag,h⟩:=bnd h
   refine Di0 H hS  ag ?_;clear hS ag;rintro c d e w hS
   refine ⟨_,_,_,_,_,rfl,?_⟩
   refine ⟨(hS.cel mp1 rfl),?_⟩
   refine Aa7 hS ?_;intro w hS
   have ac:Ent [sl c d e (List.map (AA .u64) a) N.Hr2] (rdA (List.map (AA .u64) a) c d e):=(Ent.sl (L:=[sl c d e (List.map (AA .u64) a) N.Hr2]) mp0)
   replace hS:=ro4 hS
   replace hS:=ro1 hS
   replace hS:=hS.both
   replace ac:=Ent.both (L:=[]) (y:=f) (ac.mono (Ad4 mp0))
   replace g:=AllD.both (L:=[]) (x:=(sl c d e (List.map (AA .u64) a) N.Hr2)) (g.mono (Ad4 mp1))
   obtain ⟨t9,an,h⟩:=bnd h
   obtain rfl:([(t6,a,t8)]:List Dy)=t9:=Aa0 an
   have ah:AllD [(both (sl c d e (List.map (AA .u64) a) N.Hr2) f)] ([(t6,a,t8)]:List Dy) ([(c,d,e)]:List Hd):=(.cons ac .nil)
   refine Bm3 (X:=([(t6,a,t8)]:List Dy)) (H:=([(c,d,e)]:List Hd)) (m:=1) hS rfl rfl rfl ?_;intro au w hS
   refine ⟨(hS.cel mp2 rfl),?_⟩
   refine Aa7 hS ?_;intro w hS
   obtain ⟨av,ao,h⟩:=bnd h
   obtain ⟨rfl,ai⟩:=Eq9 ao
   replace hS:=ro4 hS
   have ap:=g.append ah
   refine Bu3 hS ai g.len ah.len ((Ent.sl mp1).nw hS) rfl rfl ?_;clear hS ai;intro aw ax w hS
   refine Aa7 hS ?_;intro w hS
   replace hS:=ro3 hS
   refine Aa8 hS rfl rfl ?_;intro w hS
   refine Aa7 hS ?_;intro w hS
   obtain rfl:=Aa0 h
   exact hX _ rfl _ _ ⟨_,_,_,_,_,_,_,rfl,rfl,ap,(hS.pick (A:=[_,_,_,_,_]) [0,3,0,1] rfl)⟩
  obtain rfl:=Aa0 h
  have h:=congrArg some (hO _ rfl)
  obtain rfl:=Aa0 h
  exact hJ9 _ _ ⟨_,_,_,_,_,_,rfl,rfl,g,hS⟩
 clear h9 hS
 rintro s w ⟨l,n,o,i,p,r,rfl,rfl,aq,hS⟩
 have h:=c9
 try dsimp only
 refine ⟨_,hS.cel mp0 rfl,_,hS.cel mp0 rfl,_,_,_,hS.cel mp0 rfl,?_⟩
 replace hS:=ro1 hS
 refine Aa8 hS rfl rfl ?_;intro w hS
 refine Aa8 hS rfl rfl ?_;intro w hS
 refine Aa8 hS rfl rfl ?_;intro w hS
 refine ⟨_,hS.cel mp0 rfl,_,hS.cel mp0 rfl,_,_,_,hS.cel mp0 rfl,?_⟩
 cases Aa0 h
 exact hK _ _ _ _ _ _ (fun _ hm=>aq.mono (Ad4 hm)) (hS.pick (A:=[_,_,_,_]) [2,2] rfl)
theorem Bo9 {a u0} (hS:Ho w0 w L)  (h:Ao9 a=some u0) (hK:∀ b,Ho w0 b L→K (.bool u0) b):Aa1 P N.Hi6 #[.int .i64 a] w K:=by
 refine H.inertia_fits a w _ ?_
 unfold Bs6
 unfold Ao9 at h
 try dsimp only
 refine Aa4 h ?_ ?_<;>intro hc h
 ·
  cases Aa0 h
  exact hK _ hS
 cases Aa0 h
 exact hK _ hS
theorem Aq3 {d qj qq} {H0:List Hd} {l0:List Dy} {f:Value} {p:Dy→Option Bool} {u0} (hS:Ho w0 w L) (qx:Ent L (rdA (dyC l0 H0) d (qj*3) (qq*3))) (i:AllD L l0 H0) (y:∀ (v:Dy) (a:OA) (n c:Nat) (w:World) (L1:List It) (r:Bool) (K:KV),(∀ e,e∈L→e∈L1)→Ent L1 (rdA (List.map (AA .u64) v.2.1) a n c)→p v=some r→Ho w0 w L1→(∀ b:World,Ho w0 b L1→K (.bool r) b)→fnM f fun g gp gq=>Aa1 P g (gp.toList++(([.agg #[.bool v.1,.slice a n c,.int .i64 v.2.2]]:List Value)++gq.toList)).toArray w K) (h:Ac9 l0 p=some u0) (hK:∀ b,Ho w0 b L→K (.int .i64 u0) b):Aa1 P N.Hf8 #[.slice d qj qq,f] w K:=by
 refine H.slices_IndexFunc___api_Dyad_api_Dyad d qj qq f w _ ?_
 unfold Ah7
 unfold Ac9 at h
 try dsimp only
 obtain ⟨t1,z,h⟩:=bnd h
 obtain rfl:=Eu8 z i.len (qx.nw hS)
 obtain ⟨o1,u,x⟩:=bnd h
 refine Aa9 (fun s w =>  .inl ()=o1∧s=(())∧Ho w0 w L) (fun J1 hJ1=>?_) ?_
 ·
  have h:=u
  refine Ab4 (fun s w t=>∃ (j:Int),j=t∧s=(j,())∧Ho w0 w L) ?_ h ⟨_,rfl,rfl,hS⟩
  clear h hS
  rintro s w t X q ⟨j,rfl,rfl,hS⟩ h hX hO
  unfold Aa6 at h
  try dsimp only
  refine Aa4 h ?_ ?_<;>intro hc h
  ·
   obtain ⟨k,aa,h⟩:=bnd h
   obtain ⟨ae,l,m,vo,ab,ac⟩:=AllD.atE i aa
   refine Ah3 i.len (qx.nw hS) vo ab ?_;intro b3 o
   refine ⟨_,(Bq3 (qx.nw hS) o m l),?_⟩
   refine ⟨_,_,_,(Bm9 (qx.nw hS) o m l),?_⟩
   refine ⟨_,(Bj1 (qx.nw hS) o m l),?_⟩
   obtain ⟨t4,ad,h⟩:=bnd h
   refine y (k.1,k.2.1,k.2.2) _ _ _ _ _ _ _ (fun _ h=>h) ac ad hS ?_;rintro w hS
   refine ⟨_,rfl,?_⟩
   refine Aa4 h ?_ ?_<;>intro hc h
   ·
    obtain rfl:=Aa0 h
    have h:=congrArg some (hO _ rfl)
    obtain rfl:=Aa0 h
    have h:=x
    cases Aa0 h
    exact hK _ hS
   obtain rfl:=Aa0 h
   exact hX _ rfl _ _ ⟨_,rfl,rfl,hS⟩
  obtain rfl:=Aa0 h
  have h:=congrArg some (hO _ rfl)
  exact hJ1 _ _ ⟨Aa0 h,rfl,hS⟩
 clear u hS
 rintro s w ⟨rfl,rfl,hS⟩
 have h:=x
 try dsimp only
 cases Aa0 h
 exact hK _ hS
theorem An8 {f qj qq} {H0:List Hd} {l0:List Dy} {i:Value} {j:Dy→Option Bool} {u0} (hS:Ho w0 w L) (qx:Ent L (rdA (dyC l0 H0) f (qj*3) (qq*3))) (k:AllD L l0 H0) (l:∀ (v:Dy) (a:OA) (n c:Nat) (w:World) (L1:List It) (d:Bool) (K:KV),(∀ e,e∈L→e∈L1)→Ent L1 (rdA (List.map (AA .u64) v.2.1) a n c)→j v=some d→Ho w0 w L1→(∀ b:World,Ho w0 b L1→K (.bool d) b)→fnM i fun g gp gq=>Aa1 P g (gp.toList++(([.agg #[.bool v.1,.slice a n c,.int .i64 v.2.2]]:List Value)++gq.toList)).toArray w K) (h:Ac2 l0 j=some u0) (hK:∀ b,Ho w0 b L→K (.bool u0) b):Aa1 P N.Hf7 #[.slice f qj qq,i] w K:=by
 refine H.slices_ContainsFunc___api_Dyad_api_Dyad f qj qq i w _ ?_
 unfold Ah1
 unfold Ac2 at h
 try dsimp only
 obtain ⟨o,m,h⟩:=bnd h
 refine Aq3 H hS qx k (fun v a n c w L1 d K hL=>l v a n c w L1 d K hL) m ?_;rintro w hS
 refine ⟨_,rfl,?_⟩
 cases Aa0 h
 exact hK _ hS
theorem Bj3 {qd qb qe qg l0_1 qf u0} (hS:Ho w0 w L) (qr:EU L l0_1 qb qe qg) (h:Ag6 qd l0_1 qf=some u0) (hK:∀ a,Ho w0 a L→K (.bool u0) a):Aa1 P N.Hk6 #[.agg #[.bool qd,.slice qb qe qg,.int .i64 qf]] w K:=by
 refine H.dyad_Right qd qb qe qg qf w _ ?_
 unfold Cj1
 unfold Ag6 at h
 try dsimp only
 refine Ab2 hS ?_;intro l w hS
 refine ⟨_,_,_,hS.cel mp0 rfl,?_⟩
 obtain ⟨m,d,h⟩:=bnd h
 obtain rfl:=Ai1 d ((qr.mono tl1).nw hS)
 refine Aa4 h ?_ ?_<;>intro hc h
 ·
  refine ⟨_,hS.cel mp0 rfl,?_⟩
  refine Aa4 h ?_ ?_<;>intro hc h
  ·
   refine ⟨_,hS.cel mp0 rfl,?_⟩
   cases Aa0 h
   exact hK _ (hS.pick (A:=[_]) [] rfl)
  cases Aa0 h
  exact hK _ (hS.pick (A:=[_]) [] rfl)
 refine Aa4 h ?_ ?_<;>intro hc h
 ·
  refine ⟨_,_,_,hS.cel mp0 rfl,?_⟩
  obtain ⟨n,e,h⟩:=bnd h
  obtain ⟨b,vo,f⟩:=atE e
  refine Ad6 ((qr.mono tl1).nw hS) b vo f ?_;intro o g
  refine ⟨_,Ab8 ((qr.mono tl1).nw hS) g b,?_⟩
  refine Aa4 h ?_ ?_<;>intro hc h
  ·
   refine ⟨_,_,_,hS.cel mp0 rfl,?_⟩
   obtain ⟨p,i,h⟩:=bnd h
   obtain ⟨c,vx,j⟩:=atE i
   refine Ad6 ((qr.mono tl1).nw hS) c vx j ?_;intro b5 k
   refine ⟨_,Ab8 ((qr.mono tl1).nw hS) k c,?_⟩
   refine Aa4 h ?_ ?_<;>intro hc h
   ·
    refine ⟨_,hS.cel mp0 rfl,?_⟩
    refine Aa4 h ?_ ?_<;>intro hc h
    ·
     refine ⟨_,hS.cel mp0 rfl,?_⟩
     cases Aa0 h
     exact hK _ (hS.pick (A:=[_]) [] rfl)
    cases Aa0 h
    exact hK _ (hS.pick (A:=[_]) [] rfl)
   cases Aa0 h
   exact hK _ (hS.pick (A:=[_]) [] rfl)
  cases Aa0 h
  exact hK _ (hS.pick (A:=[_]) [] rfl)
 cases Aa0 h
 exact hK _ (hS.pick (A:=[_]) [] rfl)
theorem By1 {qd qb qe qg l0_1 qf u0} (hS:Ho w0 w L) (qr:EU L l0_1 qb qe qg) (h:Al3 qd l0_1 qf=some u0) (hK:∀ a,Ho w0 a L→K (.bool u0) a):Aa1 P N.Hg9 #[.agg #[.bool qd,.slice qb qe qg,.int .i64 qf]] w K:=by
 refine H.inertia_Right_1 qd qb qe qg qf w _ ?_
 unfold Bi0
 unfold Al3 at h
 try dsimp only
 refine Ab2 hS ?_;intro c w hS
 refine ⟨_,hS.cel mp0 rfl,_,_,_,hS.cel mp0 rfl,_,hS.cel mp0 rfl,?_⟩
 obtain ⟨d,b,h⟩:=bnd h
 refine Bj3 H hS (qr.mono tl1) b ?_;rintro w hS
 refine ⟨_,rfl,?_⟩
 cases Aa0 h
 exact hK _ (hS.pick (A:=[_]) [] rfl)
theorem Bn4 {qd qb qf qk qm} {H0_2:List Hd} {b:List Dy} {u0} (hS:Ho w0 w L) (qz:Ent L (rdA (dyC b H0_2) qf (qk*3) (qm*3))) (d:AllD L b H0_2) (hx:Al8 qd qb b=some u0) (hK:∀ e,Ho w0 e L→K (.bool u0) e):Aa1 P N.Hh9 #[.agg #[.int .i64 qd,.int .i64 qb,.slice qf qk qm]] w K:=by
 refine H.inertia_Right qd qb qf qk qm w _ ?_
 unfold Bp9
 unfold Al8 at hx
 have h:=hx
 try dsimp only
 refine Ab2 hS ?_;intro f w hS
 refine ⟨_,hS.cel mp0 rfl,?_⟩
 obtain ⟨l,g,h⟩:=bnd h
 refine Bo9 H hS  g ?_;rintro w hS
 refine ⟨_,rfl,?_⟩
 refine Aa4 h ?_ ?_<;>intro hc h
 ·
  refine ⟨_,hS.cel mp0 rfl,?_⟩
  obtain ⟨m,i,h⟩:=bnd h
  refine Bo9 H hS  i ?_;rintro w hS
  refine ⟨_,rfl,?_⟩
  refine Aa4 h ?_ ?_<;>intro hc h
  ·
   refine ⟨_,_,_,hS.cel mp0 rfl,?_⟩
   obtain ⟨o,j,h⟩:=bnd h
   obtain rfl:=Eu8 j d.len ((qz.mono tl1).nw hS)
   refine ⟨_,hS.cel mp0 rfl,_,hS.cel mp0 rfl,?_⟩
   refine Aa4 h ?_ ?_<;>intro hc h
   ·
    refine ⟨_,_,_,hS.cel mp0 rfl,?_⟩
    obtain ⟨p,k,h⟩:=bnd h
    refine An8 H hS (qz.mono tl1) (d.mono tl1) (by intro v a n c w L1 f K hL hE hx hS hK;exact By1 H hS hE hx hK) k ?_;rintro w hS
    refine ⟨_,rfl,?_⟩
    cases Aa0 h
    exact hK _ (hS.pick (A:=[_]) [] rfl)
   cases Aa0 h
   exact hK _ (hS.pick (A:=[_]) [] rfl)
  cases Aa0 h
  exact hK _ (hS.pick (A:=[_]) [] rfl)
 cases Aa0 h
 exact hK _ (hS.pick (A:=[_]) [] rfl)
theorem Ci8 {qd qb qe qg l0_1 qf u0 u1} (hS:Ho w0 w L) (qr:EU L l0_1 qb qe qg) (h:Ay2 qd l0_1 qf=some (u0,u1)) (hK:∀ a,Ho w0 a L→K (.tuple #[.int .i64 u0,.int .i64 u1]) a):Aa1 P N.Hl5 #[.agg #[.bool qd,.slice qb qe qg,.int .i64 qf]] w K:=by
 refine H.dyad_Sign qd qb qe qg qf w _ ?_
 unfold Cy9
 unfold Ay2 at h
 try dsimp only
 refine Ab2 hS ?_;intro d w hS
 refine ⟨_,hS.cel mp0 rfl,_,_,_,hS.cel mp0 rfl,_,hS.cel mp0 rfl,?_⟩
 obtain ⟨e,b,h⟩:=bnd h
 refine Bj3 H hS (qr.mono tl1) b ?_;rintro w hS
 refine ⟨_,rfl,?_⟩
 refine Aa4 h ?_ ?_<;>intro hc h
 ·
  cases Aa0 h
  exact hK _ (hS.pick (A:=[_]) [] rfl)
 refine ⟨_,_,_,hS.cel mp0 rfl,?_⟩
 obtain ⟨f,c,h⟩:=bnd h
 obtain rfl:=Ai1 c ((qr.mono tl1).nw hS)
 refine Aa4 h ?_ ?_<;>intro hc h
 ·
  cases Aa0 h
  exact hK _ (hS.pick (A:=[_]) [] rfl)
 refine ⟨_,hS.cel mp0 rfl,?_⟩
 refine Aa4 h ?_ ?_<;>intro hc h
 ·
  cases Aa0 h
  exact hK _ (hS.pick (A:=[_]) [] rfl)
 cases Aa0 h
 exact hK _ (hS.pick (A:=[_]) [] rfl)
theorem By0 {a u0} (hS:Ho w0 w L)  (hx:Ar6 a=some u0) (hK:∀ b,Ho w0 b L→K (.int .i64 u0) b):Aa1 P N.Hh0 #[.int .u64 a] w K:=by
 unfold Ar6 at hx
 by_cases hd:0≤a∧a≤18446744073709551615
 ·
  rw [decide_eq_true hd] at hx
  have hx:=Aa0 hx
  subst hx
  exact Gc4 H hS hd.1 hd.2 hK
 rw [decide_eq_false hd] at hx;cases hx
theorem Bk5 {qd qb qe qg l0_1 qf u0} (hS:Ho w0 w L) (qr:EU L l0_1 qb qe qg) (h:Au5 qd l0_1 qf=some u0) (hK:∀ a,Ho w0 a L→K (.int .i64 u0) a):Aa1 P N.Ho9 #[.agg #[.bool qd,.slice qb qe qg,.int .i64 qf]] w K:=by
 refine H.dyad_top qd qb qe qg qf w _ ?_
 unfold Dg1
 unfold Au5 at h
 try dsimp only
 refine Ab2 hS ?_;intro i w hS
 refine ⟨_,_,_,hS.cel mp0 rfl,?_⟩
 obtain ⟨j,c,h⟩:=bnd h
 obtain rfl:=Ai1 c ((qr.mono tl1).nw hS)
 refine ⟨_,hS.cel mp0 rfl,_,_,_,hS.cel mp0 rfl,?_⟩
 obtain ⟨k,d,h⟩:=bnd h
 obtain ⟨b,vo,e⟩:=atE d
 refine Ad6 ((qr.mono tl1).nw hS) b vo e ?_;intro l f
 refine ⟨_,Ab8 ((qr.mono tl1).nw hS) f b,?_⟩
 refine Aa7 hS ?_;intro w hS
 obtain ⟨m,g,h⟩:=bnd h
 refine By0 H hS  g ?_;rintro w hS
 refine ⟨_,rfl,?_⟩
 refine ⟨(hS.cel mp0 rfl),?_⟩
 refine Aa7 hS ?_;intro w hS
 cases Aa0 h
 exact hK _ (hS.pick (A:=[_]) [] rfl)
theorem Bk8 {qd qb qe qg l0_1 qf u0} (hS:Ho w0 w L) (qr:EU L l0_1 qb qe qg) (h:Ai4 qd l0_1 qf=some u0) (hK:∀ (f:Nat) (a0:OA) (z c0:Nat) (g:World),Ho w0 g ((bg N.Hr0 N.Hq9 f a0 z c0 u0)::L)→K (.pointer (some ⟨f,0,none⟩)) g):Aa1 P N.Hk2 #[.agg #[.bool qd,.slice qb qe qg,.int .i64 qf]] w K:=by
 refine H.dyad_whole qd qb qe qg qf w _ ?_
 unfold Ch0
 unfold Ai4 at h
 try dsimp only
 refine Ab2 hS ?_;intro i w hS
 refine Ab2 hS ?_;intro a w hS;replace hS:=Ho.bgNew (E:=N.Hq9) hS
 refine ⟨_,_,_,hS.cel mp1 rfl,?_⟩
 obtain ⟨t1,aa,h⟩:=bnd h
 obtain rfl:=Ai1 aa ((qr.mono tl2).nw hS)
 obtain ⟨o6,j,c6⟩:=bnd h
 refine Aa9 (fun s w=>∃ (k:OA) (l:Nat) (m:Nat) (b:Int),b=o6∧s=(())∧Ho w0 w ((bg N.Hr0 N.Hq9 a k l m b)::(cl i [.bool qd,.slice qb qe qg,.int .i64 qf] N.Hs7)::L)) (fun J6 hJ6=>?_) ?_
 ·
  have h:=j
  refine Ab4 (fun s w t=>∃ (c:Int) (n:OA) (o:Nat) (p:Nat) (d:Int),(c,d)=t∧s=(c,())∧Ho w0 w ((bg N.Hr0 N.Hq9 a n o p d)::(cl i [.bool qd,.slice qb qe qg,.int .i64 qf] N.Hs7)::L)) ?_ h ⟨_,_,_,_,_,rfl,rfl,hS⟩
  clear h hS
  rintro s w t X q ⟨c,n,o,p,d,rfl,rfl,hS⟩ h hX hO
  unfold Am5 at h
  try dsimp only
  refine Aa4 h ?_ ?_<;>intro hc h
  ·
   obtain ⟨t5,ab,h⟩:=bnd h
   refine Bg9 H hS  ab ?_;intro al am an w hS
   refine ⟨_,rfl,?_⟩
   refine Ab2 hS ?_;intro ao w hS;replace hS:=Ho.bgNew (E:=N.Hq9) hS
   refine ⟨_,_,_,hS.cel mp2 rfl,_,_,_,hS.cel mp2 rfl,?_⟩
   obtain ⟨t6,ac,h⟩:=bnd h
   obtain rfl:=Ai1 ac ((qr.mono tl3).nw hS)
   obtain ⟨t7,ad,h⟩:=bnd h
   obtain ⟨r,yh,ae⟩:=atE ad
   refine Ad6 ((qr.mono tl3).nw hS) r yh ae ?_;intro ap af
   refine ⟨_,Ab8 ((qr.mono tl3).nw hS) af r,?_⟩
   obtain ⟨t8,ag,h⟩:=bnd h
   refine Bc5 H hS  ag ?_;intro aq ar au w hS
   refine ⟨_,rfl,?_⟩
   obtain ⟨t9,ah,h⟩:=bnd h
   replace hS:=ro1 hS
   refine Di5 H hS (Ent.bg mp0) ah ?_;intro av aw ax w hS
   refine ⟨_,rfl,?_⟩
   obtain rfl:=Aa0 h
   exact hX _ rfl _ _ ⟨_,_,_,_,_,rfl,rfl,(hS.pick (A:=[_,_,_]) [0,1] rfl)⟩
  obtain rfl:=Aa0 h
  have h:=congrArg some (hO _ rfl)
  exact hJ6 _ _ ⟨_,_,_,_,Aa0 h,rfl,hS⟩
 clear j hS
 rintro s w ⟨k,l,m,b,rfl,rfl,hS⟩
 have h:=c6
 try dsimp only
 refine ⟨_,hS.cel mp1 rfl,?_⟩
 obtain ⟨ai,u,aj⟩:=bnd h
 refine Aa9 (fun s w=>∃ (v:OA) (x:Nat) (y:Nat) (e:Int),e=ai∧s=(())∧Ho w0 w ((bg N.Hr0 N.Hq9 a v x y e)::L)) (fun ay hJ19=>?_) ?_
 ·
  have h:=u
  refine Aa4 h ?_ ?_<;>intro hc h
  ·
   obtain ⟨az,ak,h⟩:=bnd h
   refine Cf4 H hS  ak ?_;intro a1 a2 a4 w hS
   refine ⟨_,rfl,?_⟩
   obtain rfl:=Aa0 h
   exact hJ19 _ _ ⟨_,_,_,_,rfl,rfl,(hS.pick (A:=[_,_]) [0] rfl)⟩
  obtain rfl:=Aa0 h
  exact hJ19 _ _ ⟨_,_,_,_,rfl,rfl,(hS.pick (A:=[_,_]) [0] rfl)⟩
 clear u hS
 rintro s w ⟨v,x,y,e,rfl,rfl,hS⟩
 have h:=aj
 try dsimp only
 cases Aa0 h
 exact hK _ _ _ _ _ hS
theorem Ef1 {qd qb qe qg l0_1 qf qt qs qo qp l1_1 qw u0 u1} (hS:Ho w0 w L) (qr:EU L l0_1 qb qe qg) (qy:EU L l1_1 qs qo qp) (h:Bi6 qd l0_1 qf qt l1_1 qw=some (u0,u1)) (hK:∀ d,Ho w0 d L→K (.tuple #[.int .i64 u0,.int .i64 u1]) d):Aa1 P N.Hn9 #[.agg #[.bool qd,.slice qb qe qg,.int .i64 qf],.agg #[.bool qt,.slice qs qo qp,.int .i64 qw]] w K:=by
 refine H.dyad_Cmp qd qb qe qg qf qt qs qo qp qw w _ ?_
 unfold Dh6
 unfold Bi6 at h
 try dsimp only
 refine Ab2 hS ?_;intro p w hS
 refine Ab2 hS ?_;intro q w hS
 refine ⟨_,hS.cel mp1 rfl,_,_,_,hS.cel mp1 rfl,_,hS.cel mp1 rfl,?_⟩
 obtain ⟨⟨t1,t2⟩,e,h⟩:=bnd h
 refine Ci8 H hS (qr.mono tl2) e ?_;clear hS e;rintro w hS
 refine ⟨_,_,rfl,?_⟩
 refine ⟨_,hS.cel mp0 rfl,_,_,_,hS.cel mp0 rfl,_,hS.cel mp0 rfl,?_⟩
 obtain ⟨⟨t3,t4⟩,f,h⟩:=bnd h
 refine Ci8 H hS (qy.mono tl2) f ?_;clear hS f;rintro w hS
 refine ⟨_,_,rfl,?_⟩
 obtain ⟨r,g,t⟩:=bnd h
 refine Aa9 (fun s w=>∃ (a:Bool),a=r∧s=(a,())∧Ho w0 w ((cl q [.bool qt,.slice qs qo qp,.int .i64 qw] N.Hs7)::(cl p [.bool qd,.slice qb qe qg,.int .i64 qf] N.Hs7)::L)) (fun J3 hJ3=>?_) ?_
 ·
  have h:=g
  refine Aa4 h ?_ ?_<;>intro hc h
  ·
   exact hJ3 _ _ ⟨_,Aa0 h,rfl,hS⟩
  exact hJ3 _ _ ⟨_,Aa0 h,rfl,hS⟩
 clear g hS
 rintro s w ⟨a,rfl,rfl,hS⟩
 have h:=t
 try dsimp only
 refine Aa4 h ?_ ?_<;>intro hc h
 ·
  cases Aa0 h
  exact hK _ (hS.pick (A:=[_,_]) [] rfl)
 refine Aa4 h ?_ ?_<;>intro hc h
 ·
  refine Aa4 h ?_ ?_<;>intro hc h
  ·
   cases Aa0 h
   exact hK _ (hS.pick (A:=[_,_]) [] rfl)
  cases Aa0 h
  exact hK _ (hS.pick (A:=[_,_]) [] rfl)
 refine Aa4 h ?_ ?_<;>intro hc h
 ·
  cases Aa0 h
  exact hK _ (hS.pick (A:=[_,_]) [] rfl)
 refine ⟨_,hS.cel mp1 rfl,_,_,_,hS.cel mp1 rfl,_,hS.cel mp1 rfl,_,hS.cel mp0 rfl,_,_,_,hS.cel mp0 rfl,_,hS.cel mp0 rfl,?_⟩
 refine Aa7 hS ?_;intro w hS
 obtain ⟨t6,u,h⟩:=bnd h
 refine Bk5 H hS (qr.mono tl2) u ?_;rintro w hS
 refine ⟨_,rfl,?_⟩
 refine ⟨(hS.cel mp0 rfl),?_⟩
 refine ⟨(hS.cel mp0 rfl),?_⟩
 refine ⟨(hS.cel mp0 rfl),?_⟩
 refine Aa7 hS ?_;intro w hS
 obtain ⟨t7,v,h⟩:=bnd h
 refine Bk5 H hS (qy.mono tl2) v ?_;rintro w hS
 refine ⟨_,rfl,?_⟩
 refine Aa7 hS ?_;intro w hS
 refine Aa4 h ?_ ?_<;>intro hc h
 ·
  refine ⟨_,hS.cel mp1 rfl,_,_,_,hS.cel mp1 rfl,_,hS.cel mp1 rfl,_,hS.cel mp0 rfl,_,_,_,hS.cel mp0 rfl,_,hS.cel mp0 rfl,?_⟩
  refine Aa7 hS ?_;intro w hS
  obtain ⟨t8,x,h⟩:=bnd h
  refine Bk5 H hS (qr.mono tl2) x ?_;rintro w hS
  refine ⟨_,rfl,?_⟩
  refine ⟨(hS.cel mp0 rfl),?_⟩
  refine ⟨(hS.cel mp0 rfl),?_⟩
  refine ⟨(hS.cel mp0 rfl),?_⟩
  refine Aa7 hS ?_;intro w hS
  obtain ⟨t9,y,h⟩:=bnd h
  refine Bk5 H hS (qy.mono tl2) y ?_;rintro w hS
  refine ⟨_,rfl,?_⟩
  refine Aa7 hS ?_;intro w hS
  refine Aa4 h ?_ ?_<;>intro hc h
  ·
   cases Aa0 h
   exact hK _ (hS.pick (A:=[_,_]) [] rfl)
  cases Aa0 h
  exact hK _ (hS.pick (A:=[_,_]) [] rfl)
 refine ⟨_,hS.cel mp1 rfl,_,_,_,hS.cel mp1 rfl,_,hS.cel mp1 rfl,_,hS.cel mp0 rfl,_,_,_,hS.cel mp0 rfl,_,hS.cel mp0 rfl,?_⟩
 refine Aa7 hS ?_;intro w hS
 obtain ⟨ag,z,h⟩:=bnd h
 refine Bk8 H hS (qr.mono tl2) z ?_;rintro r4 a4 m4 c4 w hS
 refine ⟨_,rfl,?_⟩
 refine ⟨(hS.cel mp1 rfl),?_⟩
 refine ⟨(hS.cel mp1 rfl),?_⟩
 refine ⟨(hS.cel mp1 rfl),?_⟩
 refine Aa7 hS ?_;intro w hS
 obtain ⟨ah,aa,h⟩:=bnd h
 refine Bk8 H hS (qy.mono tl3) aa ?_;rintro r5 a5 m5 c5 w hS
 refine ⟨_,rfl,?_⟩
 refine Aa7 hS ?_;intro w hS
 refine ⟨_,hS.cel mp3 rfl,_,hS.cel mp2 rfl,?_⟩
 obtain ⟨ab,i,ac⟩:=bnd h
 refine Aa9 (fun s w=>∃ (j:OA) (k:Nat) (l:Nat) (b:Int) (m:OA) (n:Nat) (o:Nat) (c:Int),(b,c)=ab∧s=(())∧Ho w0 w ((bg N.Hr0 N.Hq9 r4 j k l b)::(bg N.Hr0 N.Hq9 r5 m n o c)::L)) (fun ai hJ12=>?_) ?_
 ·
  have h:=i
  refine Aa4 h ?_ ?_<;>intro hc h
  ·
   refine ⟨_,hS.cel mp3 rfl,_,hS.cel mp2 rfl,?_⟩
   obtain ⟨aj,ad,h⟩:=bnd h
   replace hS:=ro1 hS
   refine Bg9 H hS  ad ?_;intro ak al am w hS
   refine ⟨_,rfl,?_⟩
   obtain rfl:=Aa0 h
   exact hJ12 _ _ ⟨_,_,_,_,_,_,_,_,rfl,rfl,(hS.pick (A:=[_,_,_,_]) [0,0] rfl)⟩
  refine ⟨_,hS.cel mp2 rfl,_,hS.cel mp3 rfl,?_⟩
  obtain ⟨an,ae,h⟩:=bnd h
  refine Bg9 H hS  ae ?_;intro ao ap aq w hS
  refine ⟨_,rfl,?_⟩
  obtain rfl:=Aa0 h
  exact hJ12 _ _ ⟨_,_,_,_,_,_,_,_,rfl,rfl,(hS.pick (A:=[_,_,_,_]) [1,0] rfl)⟩
 clear i hS
 rintro s w ⟨j,k,l,b,m,n,o,c,rfl,rfl,hS⟩
 have h:=ac
 try dsimp only
 obtain ⟨ar,af,h⟩:=bnd h
 refine Ew3 H hS (Ent.bg mp0) (Ent.bg mp1) af ?_;intro w hS
 refine ⟨_,rfl,?_⟩
 cases Aa0 h
 exact hK _ (hS.pick (A:=[_,_]) [] rfl)
theorem Al2 {qd qb qf qk qm} {H0_2:List Hd} {c:List Dy} {u0} (hS:Ho w0 w L) (qz:Ent L (rdA (dyC c H0_2) qf (qk*3) (qm*3))) (a:AllD L c H0_2) (h:Ac4 qd qb c=some u0) (hK:∀ n,Ho w0 n L→K (.bool u0) n):Aa1 P N.Hg6 #[.agg #[.int .i64 qd,.int .i64 qb,.slice qf qk qm]] w K:=by
 refine H.inertia_Symmetric qd qb qf qk qm w _ ?_
 unfold Bc3
 unfold Ac4 at h
 try dsimp only
 refine Ab2 hS ?_;intro b w hS
 obtain ⟨y,o,z⟩:=bnd h
 refine Aa9 (fun s w=>∃ (d:Bool),d=y∧s=(d,())∧Ho w0 w ((cl b [.int .i64 qd,.int .i64 qb,.slice qf qk qm] N.Hs3)::L)) (fun J2 hJ2=>?_) ?_
 ·
  have h:=o
  refine ⟨_,hS.cel mp0 rfl,_,hS.cel mp0 rfl,_,_,_,hS.cel mp0 rfl,?_⟩
  obtain ⟨t2,aa,h⟩:=bnd h
  refine Bn4 H hS (qz.mono tl1) (a.mono tl1) aa ?_;rintro w hS
  refine ⟨_,rfl,?_⟩
  refine Aa4 h ?_ ?_<;>intro hc h
  ·
   refine ⟨_,hS.cel mp0 rfl,_,hS.cel mp0 rfl,?_⟩
   exact hJ2 _ _ ⟨_,Aa0 h,rfl,hS⟩
  exact hJ2 _ _ ⟨_,Aa0 h,rfl,hS⟩
 clear o hS
 rintro s w ⟨d,rfl,rfl,hS⟩
 have h:=z
 try dsimp only
 refine Aa4 h ?_ ?_<;>intro hc h
 ·
  cases Aa0 h
  exact hK _ (hS.pick (A:=[_]) [] rfl)
 refine ⟨_,hS.cel mp0 rfl,?_⟩
 obtain ⟨o3,p,r⟩:=bnd h
 refine Aa9 (fun s w =>  .inl ()=o3∧s=(())∧Ho w0 w L) (fun J3 hJ3=>?_) ?_
 ·
  have h:=p
  refine Ab4 (fun s w t=>∃ (e:Int),e=t∧s=(e,())∧Ho w0 w ((cl b [.int .i64 qd,.int .i64 qb,.slice qf qk qm] N.Hs3)::L)) ?_ h ⟨_,rfl,rfl,hS⟩
  clear h hS
  rintro s w t X q ⟨e,rfl,rfl,hS⟩ h hX hO
  unfold Ap0 at h
  try dsimp only
  refine Aa4 h ?_ ?_<;>intro hc h
  ·
   obtain ⟨o4,u,v⟩:=bnd h
   refine Aa9 (fun s w =>  .inl ()=o4∧s=(())∧Ho w0 w ((cl b [.int .i64 qd,.int .i64 qb,.slice qf qk qm] N.Hs3)::L)) (fun J4 hJ4=>?_) ?_
   ·
    have h:=u
    refine Ab4 (fun s w t=>∃ (f:Int),f=t∧s=(f,())∧Ho w0 w ((cl b [.int .i64 qd,.int .i64 qb,.slice qf qk qm] N.Hs3)::L)) ?_ h ⟨_,rfl,rfl,hS⟩
    clear h hS
    rintro s w t X q ⟨f,rfl,rfl,hS⟩ h hX hO
    unfold Ah0 at h
    try dsimp only
    refine Aa4 h ?_ ?_<;>intro hc h
    ·
     refine ⟨_,_,_,hS.cel mp0 rfl,_,hS.cel mp0 rfl,?_⟩
     obtain ⟨t5,ab,h⟩:=bnd h
     obtain ⟨ah,g,i,vw,ac,ad⟩:=AllD.atE a ab
     refine Ah3 a.len ((qz.mono tl1).nw hS) vw ac ?_;intro b6 j
     refine ⟨_,(Bq3 ((qz.mono tl1).nw hS) j i g),?_⟩
     refine ⟨_,_,_,(Bm9 ((qz.mono tl1).nw hS) j i g),?_⟩
     refine ⟨_,(Bj1 ((qz.mono tl1).nw hS) j i g),?_⟩
     refine ⟨_,_,_,hS.cel mp0 rfl,_,hS.cel mp0 rfl,?_⟩
     obtain ⟨t6,ae,h⟩:=bnd h
     obtain ⟨ai,k,l,yd,af,ag⟩:=AllD.atE a ae
     refine Ah3 a.len ((qz.mono tl1).nw hS) yd af ?_;intro b8 m
     refine ⟨_,(Bq3 ((qz.mono tl1).nw hS) m l k),?_⟩
     refine ⟨_,_,_,(Bm9 ((qz.mono tl1).nw hS) m l k),?_⟩
     refine ⟨_,(Bj1 ((qz.mono tl1).nw hS) m l k),?_⟩
     refine Aa7 hS ?_;intro w hS
     obtain ⟨⟨t7,t8⟩,x,h⟩:=bnd h
     refine Ef1 H hS (ad.mono tl1) (ag.mono tl1) x ?_;clear hS x;rintro w hS
     refine ⟨_,_,rfl,?_⟩
     refine Aa7 hS ?_;intro w hS
     refine Aa4 h ?_ ?_<;>intro hc h
     ·
      obtain rfl:=Aa0 h
      have h:=congrArg some (hO _ rfl)
      obtain rfl:=Aa0 h
      have h:=v
      obtain rfl:=Aa0 h
      have h:=congrArg some (hO _ rfl)
      obtain rfl:=Aa0 h
      have h:=r
      cases Aa0 h
      exact hK _ (hS.pick (A:=[_]) [] rfl)
     obtain rfl:=Aa0 h
     exact hX _ rfl _ _ ⟨_,rfl,rfl,hS⟩
    obtain rfl:=Aa0 h
    have h:=congrArg some (hO _ rfl)
    exact hJ4 _ _ ⟨Aa0 h,rfl,hS⟩
   clear u hS
   rintro s w ⟨rfl,rfl,hS⟩
   have h:=v
   try dsimp only
   obtain rfl:=Aa0 h
   exact hX _ rfl _ _ ⟨_,rfl,rfl,hS⟩
  obtain rfl:=Aa0 h
  have h:=congrArg some (hO _ rfl)
  obtain rfl:=Aa0 h
  exact hJ3 _ _ ⟨rfl,rfl,(hS.pick (A:=[_]) [] rfl)⟩
 clear p hS
 rintro s w ⟨rfl,rfl,hS⟩
 have h:=r
 try dsimp only
 cases Aa0 h
 exact hK _ hS
theorem Bl8 {qd qb qe qg l0_1 qf a u0} (hS:Ho w0 w L) (qr:EU L l0_1 qb qe qg) (h:Ah4 qd l0_1 qf a=some u0) (hK:∀ (i:Nat) (a0:OA) (n0 c0:Nat) (j:World),Ho w0 j ((bg N.Hr0 N.Hq9 i a0 n0 c0 u0)::L)→K (.pointer (some ⟨i,0,none⟩)) j):Aa1 P N.Hh8 #[.agg #[.bool qd,.slice qb qe qg,.int .i64 qf],.int .i64 a] w K:=by
 refine H.inertia_whole qd qb qe qg qf a w _ ?_
 unfold Bo5
 unfold Ah4 at h
 try dsimp only
 refine Ab2 hS ?_;intro b w hS
 refine Ab2 hS ?_;intro c w hS;replace hS:=Ho.bgNew (E:=N.Hq9) hS
 refine ⟨_,_,_,hS.cel mp1 rfl,?_⟩
 obtain ⟨t1,aa,h⟩:=bnd h
 obtain rfl:=Ai1 aa ((qr.mono tl2).nw hS)
 refine Aa4 h ?_ ?_<;>intro hc h
 ·
  cases Aa0 h
  exact hK _ _ _ _ _ (hS.pick (A:=[_,_]) [0] rfl)
 refine ⟨_,_,_,hS.cel mp1 rfl,?_⟩
 obtain ⟨t2,ab,h⟩:=bnd h
 obtain rfl:=Ai1 ab ((qr.mono tl2).nw hS)
 obtain ⟨o6,k,c6⟩:=bnd h
 refine Aa9 (fun s w=>∃ (l:OA) (m:Nat) (n:Nat) (d:Int),d=o6∧s=(())∧Ho w0 w ((bg N.Hr0 N.Hq9 c l m n d)::(cl b [.bool qd,.slice qb qe qg,.int .i64 qf] N.Hs7)::L)) (fun J6 hJ6=>?_) ?_
 ·
  have h:=k
  refine Ab4 (fun s w t=>∃ (e:Int) (o:OA) (p:Nat) (r:Nat) (f:Int),(e,f)=t∧s=(e,())∧Ho w0 w ((bg N.Hr0 N.Hq9 c o p r f)::(cl b [.bool qd,.slice qb qe qg,.int .i64 qf] N.Hs7)::L)) ?_ h ⟨_,_,_,_,_,rfl,rfl,hS⟩
  clear h hS
  rintro s w t X q ⟨e,o,p,r,f,rfl,rfl,hS⟩ h hX hO
  unfold Bf3 at h
  try dsimp only
  refine Aa4 h ?_ ?_<;>intro hc h
  ·
   obtain ⟨t6,ac,h⟩:=bnd h
   refine Bg9 H hS  ac ?_;intro an ao ap w hS
   refine ⟨_,rfl,?_⟩
   refine Ab2 hS ?_;intro aq w hS;replace hS:=Ho.bgNew (E:=N.Hq9) hS
   refine ⟨_,_,_,hS.cel mp2 rfl,_,_,_,hS.cel mp2 rfl,?_⟩
   obtain ⟨t7,ad,h⟩:=bnd h
   obtain rfl:=Ai1 ad ((qr.mono tl3).nw hS)
   obtain ⟨t8,ae,h⟩:=bnd h
   obtain ⟨u,yh,af⟩:=atE ae
   refine Ad6 ((qr.mono tl3).nw hS) u yh af ?_;intro ar ag
   refine ⟨_,Ab8 ((qr.mono tl3).nw hS) ag u,?_⟩
   obtain ⟨t9,ah,h⟩:=bnd h
   refine Bc5 H hS  ah ?_;intro au av aw w hS
   refine ⟨_,rfl,?_⟩
   obtain ⟨ax,ai,h⟩:=bnd h
   replace hS:=ro1 hS
   refine Di5 H hS (Ent.bg mp0) ai ?_;intro ay az a1 w hS
   refine ⟨_,rfl,?_⟩
   obtain rfl:=Aa0 h
   exact hX _ rfl _ _ ⟨_,_,_,_,_,rfl,rfl,(hS.pick (A:=[_,_,_]) [0,1] rfl)⟩
  obtain rfl:=Aa0 h
  have h:=congrArg some (hO _ rfl)
  exact hJ6 _ _ ⟨_,_,_,_,Aa0 h,rfl,hS⟩
 clear k hS
 rintro s w ⟨l,m,n,d,rfl,rfl,hS⟩
 have h:=c6
 try dsimp only
 refine ⟨_,hS.cel mp1 rfl,?_⟩
 obtain ⟨aj,v,ak⟩:=bnd h
 refine Aa9 (fun s w=>∃ (x:OA) (y:Nat) (z:Nat) (g:Int),g=aj∧s=(())∧Ho w0 w ((bg N.Hr0 N.Hq9 c x y z g)::(cl b [.bool qd,.slice qb qe qg,.int .i64 qf] N.Hs7)::L)) (fun a2 hJ19=>?_) ?_
 ·
  have h:=v
  refine Aa4 h ?_ ?_<;>intro hc h
  ·
   obtain ⟨a4,al,h⟩:=bnd h
   refine Cf4 H hS  al ?_;intro a5 a6 a8 w hS
   refine ⟨_,rfl,?_⟩
   exact hJ19 _ _ ⟨_,_,_,_,Aa0 h,rfl,hS⟩
  exact hJ19 _ _ ⟨_,_,_,_,Aa0 h,rfl,hS⟩
 clear v hS
 rintro s w ⟨x,y,z,g,rfl,rfl,hS⟩
 have h:=ak
 try dsimp only
 refine ⟨_,hS.cel mp1 rfl,?_⟩
 obtain ⟨a9,am,h⟩:=bnd h
 refine Bg9 H hS  am ?_;intro ba bb bc w hS
 refine ⟨_,rfl,?_⟩
 cases Aa0 h
 exact hK _ _ _ _ _ (hS.pick (A:=[_,_]) [0] rfl)
theorem Bp1 {a u0} (hS:Ho w0 w L)  (h:Bv2 a=some u0) (hK:∀ (b:Nat) (a0:OA) (d e:Nat) (c:World),Ho w0 c ((bg N.Hr0 N.Hq9 b a0 d e u0)::L)→K (.pointer (some ⟨b,0,none⟩)) c):Aa1 P N.Hm0 #[.int .i64 a] w K:=by
 refine H.bn_NewInt a w _ ?_
 unfold Cv7
 unfold Bv2 at h
 try dsimp only
 refine Ab2 hS ?_;intro g w hS;replace hS:=Ho.bgNew (E:=N.Hq9) hS
 obtain ⟨i,f,h⟩:=bnd h
 refine Dc8 H hS  f ?_;intro j k l w hS
 refine ⟨_,rfl,?_⟩
 cases Aa0 h
 exact hK _ _ _ _ _ hS
theorem Dj5 {a ad qj qq n u0} (hS:Ho w0 w L) (qx:Ent L (bgR N.Hr0 a ad qj qq n)) (h:Av0 n=some u0) (hK:∀ (a0:OA) (o p:Nat) (r:World),Ho w0 r ((sl a0 o p (List.map (AA .u64) u0) N.Hr2)::L)→K (.slice a0 o p) r):Aa1 P N.Hl0 #[.pointer (some ⟨a,0,none⟩)] w K:=by
 refine H.dyad_limbs (some ⟨a,0,none⟩) w _ ?_
 unfold Ci7
 unfold Av0 at h
 try dsimp only
 refine Ab2 hS ?_;intro r1 w hS;replace hS:=Ho.bgNew (E:=N.Hq9) hS
 obtain ⟨t1,ae,h⟩:=bnd h
 refine Cf1 H hS qx ae ?_;intro a2 m2 c2 w hS
 refine ⟨_,rfl,?_⟩
 refine Ab2 hS ?_;intro r3 w hS;replace hS:=Ho.bgNew (E:=N.Hq9) hS
 refine Ab2 hS ?_;intro r4 w hS;replace hS:=Ho.bgNew (E:=N.Hq9) hS
 obtain ⟨t2,af,h⟩:=bnd h
 refine Bc5 H hS  af ?_;intro a5 m5 c5 w hS
 refine ⟨_,rfl,?_⟩
 obtain ⟨o9,u,c9⟩:=bnd h
 refine Aa9 (fun s w=>∃ (b:OA) (c:Nat) (d:Nat) (e:List Int),e=o9∧s=((b,c,d),())∧Ho w0 w ((sl b c d (List.map (AA .u64) e) N.Hr2)::L)) (fun J9 hJ9=>?_) ?_
 ·
  have h:=u
  replace hS:=hS.none (α:=Int) (enc:=(AA .u64)) (t:=N.Hr2)
  refine Ab4 (fun s w t=>∃ (v:OA) (x:Nat) (y:Nat) (f:Int) (z:OA) (aa:Nat) (ab:Nat) (g:Int) (i:OA) (j:Nat) (k:Nat) (l:List Int),(f,g,l)=t∧s=((i,j,k),())∧Ho w0 w ((bg N.Hr0 N.Hq9 r4 a5 m5 c5 t2)::(bg N.Hr0 N.Hq9 r3 v x y f)::(bg N.Hr0 N.Hq9 r1 z aa ab g)::(sl i j k (List.map (AA .u64) l) N.Hr2)::L)) ?_ h ⟨_,_,_,_,_,_,_,_,_,_,_,_,rfl,rfl,(hS.pick (A:=[_,_,_,_]) [1,1,1,0] rfl)⟩
  clear h hS
  rintro s w t X q ⟨v,x,y,f,z,aa,ab,g,i,j,k,l,rfl,rfl,hS⟩ h hX hO
  unfold Ap6 at h
  try dsimp only
  obtain ⟨t7,ag,h⟩:=bnd h
  refine Ao5 H hS (Ent.bg mp2) ag ?_;intro w hS
  refine ⟨_,rfl,?_⟩
  refine Aa4 h ?_ ?_<;>intro hc h
  ·
   obtain ⟨t8,ah,h⟩:=bnd h
   replace hS:=ro1 hS
   refine Ec3 H hS (Ent.bg mp1) (Ent.bg mp0) ah ?_;intro an ao ap w hS
   refine ⟨_,rfl,?_⟩
   obtain ⟨t9,ai,h⟩:=bnd h
   refine Cl4 H hS (Ent.bg mp0) ai ?_;intro w hS
   refine ⟨_,rfl,?_⟩
   obtain ⟨aj,ak,h⟩:=bnd h
   obtain rfl:([t9]:List Int)=aj:=Aa0 ak
   refine Ba4 (ks:=[t9]) (enc:=(AA .u64)) (m:=1) hS rfl rfl ?_;intro aq w hS
   obtain ⟨ar,al,h⟩:=bnd h
   obtain ⟨rfl,ac⟩:=Eq9 al
   replace hS:=ro4 hS
   refine Bv8 hS ac ((Ent.sl mp1).nw hS) (fun _=>rfl) rfl ?_;clear hS ac;intro au av w hS
   obtain ⟨aw,am,h⟩:=bnd h
   replace hS:=ro4 hS
   refine Dg2 H hS  am ?_;intro ax ay az w hS
   refine ⟨_,rfl,?_⟩
   obtain rfl:=Aa0 h
   exact hX _ rfl _ _ ⟨_,_,_,_,_,_,_,_,_,_,_,_,rfl,rfl,(hS.pick (A:=[_,_,_,_,_]) [4,3,0,0] rfl)⟩
  obtain rfl:=Aa0 h
  have h:=congrArg some (hO _ rfl)
  obtain rfl:=Aa0 h
  exact hJ9 _ _ ⟨_,_,_,_,rfl,rfl,(hS.pick (A:=[_,_,_,_]) [3] rfl)⟩
 clear u hS
 rintro s w ⟨b,c,d,e,rfl,rfl,hS⟩
 have h:=c9
 try dsimp only
 cases Aa0 h
 exact hK _ _ _ _ hS
theorem Ds0 {a j qj qq c b u0 u1 u2 d} (hS:Ho w0 w L) (qx:Ent L (bgR N.Hr0 a j qj qq c)) (h:Be3 c b=some (u0,u1,u2,d)) (hK:∀ (e:OA) (f g:Nat) (i:World),Ho w0 i ((sl e f g (List.map (AA .u64) u1) N.Hr2)::L)→K (.tuple #[.agg #[.bool u0,.slice e f g,.int .i64 u2],.int .i64 d]) i):Aa1 P N.Hm1 #[.pointer (some ⟨a,0,none⟩),.int .i64 b] w K:=by
 refine H.dyad_made (some ⟨a,0,none⟩) b w _ ?_
 unfold Cq5
 unfold Be3 at h
 try dsimp only
 refine Ab2 hS ?_;intro r w hS
 obtain ⟨s,k,h⟩:=bnd h
 refine Ao5 H hS (qx.mono tl1) k ?_;intro w hS
 refine ⟨_,rfl,?_⟩
 refine Aa4 h ?_ ?_<;>intro hc h
 ·
  refine Aa8 hS rfl rfl ?_;intro w hS
  refine Aa8 hS rfl rfl ?_;intro w hS
  refine Aa8 hS rfl rfl ?_;intro w hS
  refine ⟨_,hS.cel mp0 rfl,_,_,_,hS.cel mp0 rfl,_,hS.cel mp0 rfl,?_⟩
  replace hS:=hS.none (α:=Int) (enc:=(AA .u64)) (t:=N.Hr2)
  cases Aa0 h
  exact hK _ _ _ _ (hS.pick (A:=[_,_]) [0] rfl)
 obtain ⟨u,l,h⟩:=bnd h
 refine Aw8 H hS (qx.mono tl1) l ?_;intro w hS
 refine ⟨_,rfl,?_⟩
 refine Aa4 h ?_ ?_<;>intro hc h
 ·
  refine Aa8 hS rfl rfl ?_;intro w hS
  refine Aa8 hS rfl rfl ?_;intro w hS
  refine Aa8 hS rfl rfl ?_;intro w hS
  refine ⟨_,hS.cel mp0 rfl,_,_,_,hS.cel mp0 rfl,_,hS.cel mp0 rfl,?_⟩
  replace hS:=hS.none (α:=Int) (enc:=(AA .u64)) (t:=N.Hr2)
  cases Aa0 h
  exact hK _ _ _ _ (hS.pick (A:=[_,_]) [0] rfl)
 refine Aa4 h ?_ ?_<;>intro hc h
 ·
  refine Aa8 hS rfl rfl ?_;intro w hS
  refine Aa8 hS rfl rfl ?_;intro w hS
  refine Aa8 hS rfl rfl ?_;intro w hS
  refine ⟨_,hS.cel mp0 rfl,_,_,_,hS.cel mp0 rfl,_,hS.cel mp0 rfl,?_⟩
  replace hS:=hS.none (α:=Int) (enc:=(AA .u64)) (t:=N.Hr2)
  cases Aa0 h
  exact hK _ _ _ _ (hS.pick (A:=[_,_]) [0] rfl)
 refine Aa4 h ?_ ?_<;>intro hc h
 ·
  refine Aa8 hS rfl rfl ?_;intro w hS
  refine Aa8 hS rfl rfl ?_;intro w hS
  refine Aa8 hS rfl rfl ?_;intro w hS
  refine ⟨_,hS.cel mp0 rfl,_,_,_,hS.cel mp0 rfl,_,hS.cel mp0 rfl,?_⟩
  replace hS:=hS.none (α:=Int) (enc:=(AA .u64)) (t:=N.Hr2)
  cases Aa0 h
  exact hK _ _ _ _ (hS.pick (A:=[_,_]) [0] rfl)
 obtain ⟨v,m,h⟩:=bnd h
 refine Ch7 H hS (qx.mono tl1) m ?_;intro w hS
 refine ⟨_,rfl,?_⟩
 refine Aa4 h ?_ ?_<;>intro hc h
 ·
  refine Aa8 hS rfl rfl ?_;intro w hS
  refine Aa8 hS rfl rfl ?_;intro w hS
  refine Aa8 hS rfl rfl ?_;intro w hS
  refine ⟨_,hS.cel mp0 rfl,_,_,_,hS.cel mp0 rfl,_,hS.cel mp0 rfl,?_⟩
  replace hS:=hS.none (α:=Int) (enc:=(AA .u64)) (t:=N.Hr2)
  cases Aa0 h
  exact hK _ _ _ _ (hS.pick (A:=[_,_]) [0] rfl)
 obtain ⟨x,n,h⟩:=bnd h
 refine Ao5 H hS (qx.mono tl1) n ?_;intro w hS
 refine ⟨_,rfl,?_⟩
 refine Ab2 hS ?_;intro y w hS;replace hS:=Ho.bgNew (E:=N.Hq9) hS
 refine Ab2 hS ?_;intro z w hS;replace hS:=Ho.bgNew (E:=N.Hq9) hS
 obtain ⟨t5,o,h⟩:=bnd h
 refine Cf1 H hS (qx.mono tl2) o ?_;intro a4 m4 c4 w hS
 refine ⟨_,rfl,?_⟩
 obtain ⟨t6,p,h⟩:=bnd h
 replace hS:=ro1 hS
 refine Et4 H hS (Ent.bg mp0) p ?_;intro a5 m5 c5 w hS
 refine ⟨_,rfl,?_⟩
 obtain ⟨t7,q,h⟩:=bnd h
 refine Dj5 H hS (Ent.bg mp0) q ?_;rintro a6 m6 c6 w hS
 refine ⟨_,_,_,rfl,?_⟩
 replace hS:=ro3 hS
 refine Aa8 hS rfl rfl ?_;intro w hS
 refine Aa8 hS rfl rfl ?_;intro w hS
 refine Aa8 hS rfl rfl ?_;intro w hS
 refine ⟨_,hS.cel mp0 rfl,_,_,_,hS.cel mp0 rfl,_,hS.cel mp0 rfl,?_⟩
 cases Aa0 h
 exact hK _ _ _ _ (hS.pick (A:=[_,_,_,_]) [1] rfl)
theorem Dx5 {qd qb qe qg l0_1 qf u0 u1 u2 a} (hS:Ho w0 w L) (qr:EU L l0_1 qb qe qg) (h:Bc2 qd l0_1 qf=some (u0,u1,u2,a)) (hK:∀ (b:OA) (c d:Nat) (e:World),Ho w0 e ((sl b c d (List.map (AA .u64) u1) N.Hr2)::L)→K (.tuple #[.agg #[.bool u0,.slice b c d,.int .i64 u2],.int .i64 a]) e):Aa1 P N.Hn2 #[.agg #[.bool qd,.slice qb qe qg,.int .i64 qf]] w K:=by
 refine H.dyad_Norm qd qb qe qg qf w _ ?_
 unfold Cq4
 unfold Bc2 at h
 try dsimp only
 refine Ab2 hS ?_;intro i w hS
 refine Ab2 hS ?_;intro j w hS
 refine ⟨_,hS.cel mp1 rfl,_,_,_,hS.cel mp1 rfl,_,hS.cel mp1 rfl,_,hS.cel mp1 rfl,?_⟩
 refine Aa7 hS ?_;intro w hS
 obtain ⟨k,g,h⟩:=bnd h
 refine Bk8 H hS (qr.mono tl2) g ?_;rintro l m n o w hS
 refine ⟨_,rfl,?_⟩
 refine ⟨(hS.cel mp2 rfl),?_⟩
 refine Aa7 hS ?_;intro w hS
 obtain ⟨⟨p,q,r,s⟩,f,h⟩:=bnd h
 refine Ds0 H hS (Ent.bg mp0) f ?_;clear hS f;rintro t u v w hS
 refine ⟨_,_,_,_,_,_,rfl,?_⟩
 refine Aa7 hS ?_;intro w hS
 replace hS:=ro2 hS
 refine Aa8 hS rfl rfl ?_;intro w hS
 refine Aa8 hS rfl rfl ?_;intro w hS
 refine Aa8 hS rfl rfl ?_;intro w hS
 refine Aa7 hS ?_;intro w hS
 refine ⟨_,hS.cel mp0 rfl,_,_,_,hS.cel mp0 rfl,_,hS.cel mp0 rfl,?_⟩
 cases Aa0 h
 exact hK _ _ _ _ (hS.pick (A:=[_,_,_,_]) [1] rfl)
theorem Cr2 {b ae qj qq n a u0 u1 u2 o} (hS:Ho w0 w L) (qx:Ent L (bgR N.Hr0 b ae qj qq n)) (h:Ao2 n a=some (u0,u1,u2,o)) (hK:∀ (p:OA) (r u:Nat) (v:World),Ho w0 v ((sl p r u (List.map (AA .u64) u1) N.Hr2)::L)→K (.tuple #[.agg #[.bool u0,.slice p r u,.int .i64 u2],.int .i64 o]) v):Aa1 P N.Hi1 #[.pointer (some ⟨b,0,none⟩),.int .i64 a] w K:=by
 refine H.inertia_told (some ⟨b,0,none⟩) a w _ ?_
 unfold Bu7
 unfold Ao2 at h
 try dsimp only
 refine Ab2 hS ?_;intro x w hS
 obtain ⟨y,af,h⟩:=bnd h
 refine Ao5 H hS (qx.mono tl1) af ?_;intro w hS
 refine ⟨_,rfl,?_⟩
 refine Ab2 hS ?_;intro z w hS
 refine Aa8 hS rfl rfl ?_;intro w hS
 refine Aa8 hS rfl rfl ?_;intro w hS
 refine Aa8 hS rfl rfl ?_;intro w hS
 refine Ab2 hS ?_;intro r3 w hS;replace hS:=Ho.bgNew (E:=N.Hq9) hS
 obtain ⟨t2,ag,h⟩:=bnd h
 refine Cf1 H hS (qx.mono tl2) ag ?_;intro a4 m4 c4 w hS
 refine ⟨_,rfl,?_⟩
 obtain ⟨o8,h8,c8⟩:=bnd h
 refine Aa9 (fun s w=>∃ (c:OA) (d:Nat) (e:Nat) (f:List Int),f=o8∧s=(())∧Ho w0 w ((cl z [.bool (decide (y<0)),.slice c d e,.int .i64 a] N.Hs7)::(cl x [.bool false,.slice none 0 0,.int .i64 0] N.Hs7)::(sl c d e (List.map (AA .u64) f) N.Hr2)::L)) (fun J8 hJ8=>?_) ?_
 ·
  have h:=h8
  replace hS:=hS.none (α:=Int) (enc:=(AA .u64)) (t:=N.Hr2)
  refine Ab4 (fun s w t=>∃ (a9:OA) (aa:Nat) (ab:Nat) (g:Int) (i:OA) (j:Nat) (k:Nat) (l:List Int),(g,l)=t∧s=(())∧Ho w0 w ((bg N.Hr0 N.Hq9 r3 a9 aa ab g)::(cl z [.bool (decide (y<0)),.slice i j k,.int .i64 a] N.Hs7)::(cl x [.bool false,.slice none 0 0,.int .i64 0] N.Hs7)::(sl i j k (List.map (AA .u64) l) N.Hr2)::L)) ?_ h ⟨_,_,_,_,_,_,_,_,rfl,rfl,(hS.pick (A:=[_,_,_,_]) [1,1,1,0] rfl)⟩
  clear h hS
  rintro s w t X q ⟨a9,aa,ab,g,i,j,k,l,rfl,rfl,hS⟩ h hX hO
  unfold Ai8 at h
  try dsimp only
  obtain ⟨t6,ah,h⟩:=bnd h
  refine Ao5 H hS (Ent.bg mp0) ah ?_;intro w hS
  refine ⟨_,rfl,?_⟩
  refine Aa4 h ?_ ?_<;>intro hc h
  ·
   refine ⟨_,_,_,hS.cel mp1 rfl,?_⟩
   refine Aa7 hS ?_;intro w hS
   obtain ⟨t7,ai,h⟩:=bnd h
   refine Cl4 H hS (Ent.bg mp0) ai ?_;intro w hS
   refine ⟨_,rfl,?_⟩
   refine ⟨(hS.cel mp1 rfl),?_⟩
   refine Aa7 hS ?_;intro w hS
   obtain ⟨t8,aj,h⟩:=bnd h
   obtain rfl:([t7]:List Int)=t8:=Aa0 aj
   refine Ba4 (ks:=[t7]) (enc:=(AA .u64)) (m:=1) hS rfl rfl ?_;intro am w hS
   refine ⟨(hS.cel mp2 rfl),?_⟩
   refine Aa7 hS ?_;intro w hS
   obtain ⟨t9,ak,h⟩:=bnd h
   obtain ⟨rfl,ac⟩:=Eq9 ak
   replace hS:=ro4 hS
   refine Bv8 hS ac ((Ent.sl mp1).nw hS) (fun _=>rfl) rfl ?_;clear hS ac;intro an ao w hS
   refine Aa7 hS ?_;intro w hS
   replace hS:=ro3 hS
   refine Aa8 hS rfl rfl ?_;intro w hS
   refine Aa7 hS ?_;intro w hS
   obtain ⟨ap,al,h⟩:=bnd h
   replace hS:=ro3 hS
   refine Dg2 H hS  al ?_;intro aq ar au w hS
   refine ⟨_,rfl,?_⟩
   obtain rfl:=Aa0 h
   exact hX _ rfl _ _ ⟨_,_,_,_,_,_,_,_,rfl,rfl,(hS.pick (A:=[_,_,_,_,_]) [0,0,2,0] rfl)⟩
  obtain rfl:=Aa0 h
  have h:=congrArg some (hO _ rfl)
  obtain rfl:=Aa0 h
  exact hJ8 _ _ ⟨_,_,_,_,rfl,rfl,(hS.pick (A:=[_,_,_,_]) [1,1,1] rfl)⟩
 clear h8 hS
 rintro s w ⟨c,d,e,f,rfl,rfl,hS⟩
 have h:=c8
 try dsimp only
 refine ⟨_,hS.cel mp0 rfl,_,_,_,hS.cel mp0 rfl,_,hS.cel mp0 rfl,?_⟩
 obtain ⟨⟨av,aw,ax,ay⟩,ad,h⟩:=bnd h
 refine Dx5 H hS (Ent.sl mp2) ad ?_;clear hS ad;rintro az a0 a2 w hS
 refine ⟨_,_,_,_,_,_,rfl,?_⟩
 replace hS:=ro2 hS
 refine Aa8 hS rfl rfl ?_;intro w hS
 refine Aa8 hS rfl rfl ?_;intro w hS
 refine Aa8 hS rfl rfl ?_;intro w hS
 refine ⟨_,hS.cel mp0 rfl,_,_,_,hS.cel mp0 rfl,_,hS.cel mp0 rfl,?_⟩
 cases Aa0 h
 exact hK _ _ _ _ (hS.pick (A:=[_,_,_,_]) [1] rfl)
theorem Dc2 {a qj qq l0 b qu vf d u0} (hS:Ho w0 w L) (qx:EU L l0 a qj qq) (vg:EU L d b qu vf) (h:Av7 l0 d=some u0) (hK:∀ e,Ho w0 e L→K (.bool u0) e):Aa1 P N.Hj2 #[.slice a qj qq,.slice b qu vf] w K:=by
 refine H.k_SameLimbs a qj qq b qu vf w _ ?_
 unfold Cb4
 unfold Av7 at h
 try dsimp only
 obtain ⟨y,k,h⟩:=bnd h
 obtain rfl:=Ai1 k (qx.nw hS)
 obtain ⟨z,l,h⟩:=bnd h
 obtain rfl:=Ai1 l (vg.nw hS)
 refine Aa4 h ?_ ?_<;>intro hc h
 ·
  cases Aa0 h
  exact hK _ hS
 obtain ⟨m,f,g⟩:=bnd h
 refine Aa9 (fun s w =>  .inl ()=m∧s=(())∧Ho w0 w L) (fun J1 hJ1=>?_) ?_
 ·
  have h:=f
  refine Ab4 (fun s w t=>∃ (c:Int),c=t∧s=(c,())∧Ho w0 w L) ?_ h ⟨_,rfl,rfl,hS⟩
  clear h hS
  rintro s w t X q ⟨c,rfl,rfl,hS⟩ h hX hO
  unfold Ag9 at h
  try dsimp only
  obtain ⟨t4,n,h⟩:=bnd h
  obtain rfl:=Ai1 n (qx.nw hS)
  refine Aa4 h ?_ ?_<;>intro hc h
  ·
   obtain ⟨t5,o,h⟩:=bnd h
   obtain ⟨i,vo,p⟩:=atE o
   refine Ad6 (qx.nw hS) i vo p ?_;intro b3 r
   refine ⟨_,Ab8 (qx.nw hS) r i,?_⟩
   obtain ⟨t6,u,h⟩:=bnd h
   obtain ⟨j,vx,v⟩:=atE u
   refine Ad6 (vg.nw hS) j vx v ?_;intro b5 x
   refine ⟨_,Ab8 (vg.nw hS) x j,?_⟩
   refine Aa7 hS ?_;intro w hS
   refine Aa4 h ?_ ?_<;>intro hc h
   ·
    obtain rfl:=Aa0 h
    have h:=congrArg some (hO _ rfl)
    obtain rfl:=Aa0 h
    have h:=g
    cases Aa0 h
    exact hK _ hS
   obtain rfl:=Aa0 h
   exact hX _ rfl _ _ ⟨_,rfl,rfl,hS⟩
  obtain rfl:=Aa0 h
  have h:=congrArg some (hO _ rfl)
  exact hJ1 _ _ ⟨Aa0 h,rfl,hS⟩
 clear f hS
 rintro s w ⟨rfl,rfl,hS⟩
 have h:=g
 try dsimp only
 cases Aa0 h
 exact hK _ hS
theorem Bj5 {qd qb qe qg l0_1 qf qt qs qo qp l1_1 qw u0} (hS:Ho w0 w L) (qr:EU L l0_1 qb qe qg) (qy:EU L l1_1 qs qo qp) (h:Am8 qd l0_1 qf qt l1_1 qw=some u0) (hK:∀ a,Ho w0 a L→K (.bool u0) a):Aa1 P N.Hk7 #[.agg #[.bool qd,.slice qb qe qg,.int .i64 qf],.agg #[.bool qt,.slice qs qo qp,.int .i64 qw]] w K:=by
 refine H.k_SameDyad qd qb qe qg qf qt qs qo qp qw w _ ?_
 unfold Ci0
 unfold Am8 at h
 try dsimp only
 refine Ab2 hS ?_;intro c w hS
 refine Ab2 hS ?_;intro d w hS
 refine ⟨_,hS.cel mp1 rfl,_,hS.cel mp0 rfl,?_⟩
 refine Aa4 h ?_ ?_<;>intro hc h
 ·
  refine ⟨_,_,_,hS.cel mp1 rfl,_,_,_,hS.cel mp0 rfl,?_⟩
  obtain ⟨e,b,h⟩:=bnd h
  refine Dc2 H hS (qr.mono tl2) (qy.mono tl2) b ?_;rintro w hS
  refine ⟨_,rfl,?_⟩
  refine Aa4 h ?_ ?_<;>intro hc h
  ·
   refine ⟨_,hS.cel mp1 rfl,_,hS.cel mp0 rfl,?_⟩
   cases Aa0 h
   exact hK _ (hS.pick (A:=[_,_]) [] rfl)
  cases Aa0 h
  exact hK _ (hS.pick (A:=[_,_]) [] rfl)
 cases Aa0 h
 exact hK _ (hS.pick (A:=[_,_]) [] rfl)
theorem Bg6 {b qj qq} {H0:List Hd} {l0:List Dy} {c qu vf} {H1:List Hd} {d:List Dy} {u0} (hS:Ho w0 w L) (qx:Ent L (rdA (dyC l0 H0) b (qj*3) (qq*3))) (a:AllD L l0 H0) (vg:Ent L (rdA (dyC d H1) c (qu*3) (vf*3))) (e:AllD L d H1) (h:Ak7 l0 d=some u0) (hK:∀ n,Ho w0 n L→K (.bool u0) n):Aa1 P N.Hi8 #[.slice b qj qq,.slice c qu vf] w K:=by
 refine H.k_SameDyads b qj qq c qu vf w _ ?_
 unfold Ca8
 unfold Ak7 at h
 try dsimp only
 obtain ⟨t1,r,h⟩:=bnd h
 obtain rfl:=Eu8 r a.len (qx.nw hS)
 obtain ⟨t2,u,h⟩:=bnd h
 obtain rfl:=Eu8 u e.len (vg.nw hS)
 refine Aa4 h ?_ ?_<;>intro hc h
 ·
  cases Aa0 h
  exact hK _ hS
 obtain ⟨v,o,p⟩:=bnd h
 refine Aa9 (fun s w =>  .inl ()=v∧s=(())∧Ho w0 w L) (fun J1 hJ1=>?_) ?_
 ·
  have h:=o
  refine Ab4 (fun s w t=>∃ (f:Int),f=t∧s=(f,())∧Ho w0 w L) ?_ h ⟨_,rfl,rfl,hS⟩
  clear h hS
  rintro s w t X q ⟨f,rfl,rfl,hS⟩ h hX hO
  unfold Aj4 at h
  try dsimp only
  obtain ⟨t4,x,h⟩:=bnd h
  obtain rfl:=Eu8 x a.len (qx.nw hS)
  refine Aa4 h ?_ ?_<;>intro hc h
  ·
   obtain ⟨t5,y,h⟩:=bnd h
   obtain ⟨af,g,i,vo,z,aa⟩:=AllD.atE a y
   refine Ah3 a.len (qx.nw hS) vo z ?_;intro b3 j
   refine ⟨_,(Bq3 (qx.nw hS) j i g),?_⟩
   refine ⟨_,_,_,(Bm9 (qx.nw hS) j i g),?_⟩
   refine ⟨_,(Bj1 (qx.nw hS) j i g),?_⟩
   obtain ⟨t6,ab,h⟩:=bnd h
   obtain ⟨ag,k,l,vx,ac,ad⟩:=AllD.atE e ab
   refine Ah3 e.len (vg.nw hS) vx ac ?_;intro b5 m
   refine ⟨_,(Bq3 (vg.nw hS) m l k),?_⟩
   refine ⟨_,_,_,(Bm9 (vg.nw hS) m l k),?_⟩
   refine ⟨_,(Bj1 (vg.nw hS) m l k),?_⟩
   refine Aa7 hS ?_;intro w hS
   obtain ⟨t7,ae,h⟩:=bnd h
   refine Bj5 H hS aa ad ae ?_;rintro w hS
   refine ⟨_,rfl,?_⟩
   refine Aa7 hS ?_;intro w hS
   refine Aa4 h ?_ ?_<;>intro hc h
   ·
    obtain rfl:=Aa0 h
    have h:=congrArg some (hO _ rfl)
    obtain rfl:=Aa0 h
    have h:=p
    cases Aa0 h
    exact hK _ hS
   obtain rfl:=Aa0 h
   exact hX _ rfl _ _ ⟨_,rfl,rfl,hS⟩
  obtain rfl:=Aa0 h
  have h:=congrArg some (hO _ rfl)
  exact hJ1 _ _ ⟨Aa0 h,rfl,hS⟩
 clear o hS
 rintro s w ⟨rfl,rfl,hS⟩
 have h:=p
 try dsimp only
 cases Aa0 h
 exact hK _ hS
theorem Db4 {b qj qq l0 u0} (hS:Ho w0 w L) (qx:EU L l0 b qj qq) (hx:Av6 l0=some u0) (hK:∀ (c:Nat) (a:World),l0=u0→Ho w0 a ((sl (some ⟨c,0,none⟩) (qj+12) (qj+12) (List.map (AA .u64) (l0++Au6)) N.Hr2)::L)→K (.slice (some ⟨c,0,none⟩) qj (qj+12)) a):Aa1 P N.Hj3 #[.slice b qj qq] w K:=by
 unfold Av6 at hx
 have hd:l0.length≤4294967000:=by
  rcases Nat.lt_or_ge 4294967000 l0.length with h | h
  ·
   rw [decide_eq_false (by omega)] at hx;cases hx
  exact h
 rw [decide_eq_true hd] at hx
 have hx:=Aa0 hx
 exact Gc3 H hS qx hd fun r a d=>hK r a hx d
theorem Aw5 {qd qb qe qg l0_1 qf u0 u1 u2} (hS:Ho w0 w L) (qr:EU L l0_1 qb qe qg) (h:Ba2 qd l0_1 qf=some (u0,u1,u2)) (hK:∀ (a:Nat) (b:World),l0_1=u1→Ho w0 b ((sl (some ⟨a,0,none⟩) (qe+12) (qe+12) (List.map (AA .u64) (l0_1++Au6)) N.Hr2)::L)→K (.agg #[.bool u0,.slice (some ⟨a,0,none⟩) qe (qe+12),.int .i64 u2]) b):Aa1 P N.Hk5 #[.agg #[.bool qd,.slice qb qe qg,.int .i64 qf]] w K:=by
 refine H.k_LentDyad qd qb qe qg qf w _ ?_
 unfold Ck0
 unfold Ba2 at h
 try dsimp only
 refine Ab2 hS ?_;intro a w hS
 refine Ab2 hS ?_;intro d w hS
 refine ⟨_,_,_,hS.cel mp1 rfl,?_⟩
 obtain ⟨e,c,h⟩:=bnd h
 refine Db4 H hS (qr.mono tl2) c ?_;rintro f w rfl hS
 refine ⟨_,_,_,rfl,?_⟩
 replace hS:=ro2 hS
 refine Aa8 hS rfl rfl ?_;intro w hS
 refine ⟨_,hS.cel mp0 rfl,_,_,_,hS.cel mp0 rfl,_,hS.cel mp0 rfl,?_⟩
 replace hS:=ro2 hS
 refine Aa8 hS rfl rfl ?_;intro w hS
 refine Aa8 hS rfl rfl ?_;intro w hS
 refine Aa8 hS rfl rfl ?_;intro w hS
 refine ⟨_,hS.cel mp0 rfl,_,_,_,hS.cel mp0 rfl,_,hS.cel mp0 rfl,?_⟩
 cases Aa0 h
 exact hK _ _ rfl (hS.pick (A:=[_,_,_]) [2] rfl)
theorem Ck9 {qd qb qe qg l0_1 qf u0} (hS:Ho w0 w L) (qr:EU L l0_1 qb qe qg) (h:Aq9 qd l0_1 qf=some u0) (hK:∀ a,Ho w0 a L→K (.bool u0) a):Aa1 P N.Hm8 #[.agg #[.bool qd,.slice qb qe qg,.int .i64 qf]] w K:=by
 refine H.r02_Right qd qb qe qg qf w _ ?_
 unfold Cw2
 unfold Aq9 at h
 try dsimp only
 refine Ab2 hS ?_;intro n w hS
 refine ⟨_,_,_,hS.cel mp0 rfl,?_⟩
 obtain ⟨o,d,h⟩:=bnd h
 obtain rfl:=Ai1 d ((qr.mono tl1).nw hS)
 refine Aa4 h ?_ ?_<;>intro hc h
 ·
  refine ⟨_,hS.cel mp0 rfl,?_⟩
  refine Aa4 h ?_ ?_<;>intro hc h
  ·
   refine ⟨_,hS.cel mp0 rfl,?_⟩
   cases Aa0 h
   exact hK _ (hS.pick (A:=[_]) [] rfl)
  cases Aa0 h
  exact hK _ (hS.pick (A:=[_]) [] rfl)
 refine ⟨_,_,_,hS.cel mp0 rfl,?_⟩
 obtain ⟨p,e,h⟩:=bnd h
 obtain rfl:=Ai1 e ((qr.mono tl1).nw hS)
 refine Aa4 h ?_ ?_<;>intro hc h
 ·
  refine ⟨_,_,_,hS.cel mp0 rfl,_,_,_,hS.cel mp0 rfl,?_⟩
  obtain ⟨q,f,h⟩:=bnd h
  obtain rfl:=Ai1 f ((qr.mono tl1).nw hS)
  obtain ⟨r,g,h⟩:=bnd h
  obtain ⟨b,vo,i⟩:=atE g
  refine Ad6 ((qr.mono tl1).nw hS) b vo i ?_;intro s j
  refine ⟨_,Ab8 ((qr.mono tl1).nw hS) j b,?_⟩
  refine Aa4 h ?_ ?_<;>intro hc h
  ·
   refine ⟨_,_,_,hS.cel mp0 rfl,?_⟩
   obtain ⟨t,k,h⟩:=bnd h
   obtain ⟨c,vx,l⟩:=atE k
   refine Ad6 ((qr.mono tl1).nw hS) c vx l ?_;intro b5 m
   refine ⟨_,Ab8 ((qr.mono tl1).nw hS) m c,?_⟩
   refine ⟨by decide,?_⟩
   refine Aa4 h ?_ ?_<;>intro hc h
   ·
    refine ⟨_,hS.cel mp0 rfl,?_⟩
    refine Aa4 h ?_ ?_<;>intro hc h
    ·
     refine ⟨_,hS.cel mp0 rfl,?_⟩
     cases Aa0 h
     exact hK _ (hS.pick (A:=[_]) [] rfl)
    cases Aa0 h
    exact hK _ (hS.pick (A:=[_]) [] rfl)
   cases Aa0 h
   exact hK _ (hS.pick (A:=[_]) [] rfl)
  cases Aa0 h
  exact hK _ (hS.pick (A:=[_]) [] rfl)
 cases Aa0 h
 exact hK _ (hS.pick (A:=[_]) [] rfl)
theorem Cj2 {qd qb qf qk qm} {H0_2:List Hd} {b:List Dy} {u0} (hS:Ho w0 w L) (qz:Ent L (rdA (dyC b H0_2) qf (qk*3) (qm*3))) (a:AllD L b H0_2) (h:Ay3 qd qb b=some u0) (hK:∀ i,Ho w0 i L→K (.bool u0) i):Aa1 P N.Hn4 #[.agg #[.int .i64 qd,.int .i64 qb,.slice qf qk qm]] w K:=by
 refine H.r16_Right qd qb qf qk qm w _ ?_
 unfold Cz0
 unfold Ay3 at h
 try dsimp only
 refine Ab2 hS ?_;intro j w hS
 obtain ⟨n,k,o⟩:=bnd h
 refine Aa9 (fun s w=>∃ (c:Bool),c=n∧s=(c,())∧Ho w0 w ((cl j [.int .i64 qd,.int .i64 qb,.slice qf qk qm] N.Hs3)::L)) (fun J2 hJ2=>?_) ?_
 ·
  have h:=k
  refine ⟨_,hS.cel mp0 rfl,?_⟩
  refine Aa4 h ?_ ?_<;>intro hc h
  ·
   refine ⟨_,hS.cel mp0 rfl,?_⟩
   refine Aa4 h ?_ ?_<;>intro hc h
   ·
    refine ⟨_,hS.cel mp0 rfl,?_⟩
    refine Aa4 h ?_ ?_<;>intro hc h
    ·
     refine ⟨_,hS.cel mp0 rfl,?_⟩
     refine Aa4 h ?_ ?_<;>intro hc h
     ·
      refine ⟨_,_,_,hS.cel mp0 rfl,?_⟩
      obtain ⟨t2,p,h⟩:=bnd h
      obtain rfl:=Eu8 p a.len ((qz.mono tl1).nw hS)
      refine ⟨_,hS.cel mp0 rfl,_,hS.cel mp0 rfl,?_⟩
      exact hJ2 _ _ ⟨_,Aa0 h,rfl,hS⟩
     exact hJ2 _ _ ⟨_,Aa0 h,rfl,hS⟩
    exact hJ2 _ _ ⟨_,Aa0 h,rfl,hS⟩
   exact hJ2 _ _ ⟨_,Aa0 h,rfl,hS⟩
  exact hJ2 _ _ ⟨_,Aa0 h,rfl,hS⟩
 clear k hS
 rintro s w ⟨c,rfl,rfl,hS⟩
 have h:=o
 try dsimp only
 refine Aa4 h ?_ ?_<;>intro hc h
 ·
  cases Aa0 h
  exact hK _ (hS.pick (A:=[_]) [] rfl)
 obtain ⟨r,l,m⟩:=bnd h
 refine Aa9 (fun s w =>  .inl ()=r∧s=(())∧Ho w0 w L) (fun J3 hJ3=>?_) ?_
 ·
  have h:=l
  refine Ab4 (fun s w t=>∃ (d:Int),d=t∧s=(d,())∧Ho w0 w ((cl j [.int .i64 qd,.int .i64 qb,.slice qf qk qm] N.Hs3)::L)) ?_ h ⟨_,rfl,rfl,hS⟩
  clear h hS
  rintro s w t X q ⟨d,rfl,rfl,hS⟩ h hX hO
  unfold Ah2 at h
  try dsimp only
  refine ⟨_,_,_,hS.cel mp0 rfl,?_⟩
  obtain ⟨t4,u,h⟩:=bnd h
  obtain rfl:=Eu8 u a.len ((qz.mono tl1).nw hS)
  refine Aa4 h ?_ ?_<;>intro hc h
  ·
   refine ⟨_,_,_,hS.cel mp0 rfl,?_⟩
   obtain ⟨t5,v,h⟩:=bnd h
   obtain ⟨aa,e,f,vx,x,y⟩:=AllD.atE a v
   refine Ah3 a.len ((qz.mono tl1).nw hS) vx x ?_;intro b5 g
   refine ⟨_,(Bq3 ((qz.mono tl1).nw hS) g f e),?_⟩
   refine ⟨_,_,_,(Bm9 ((qz.mono tl1).nw hS) g f e),?_⟩
   refine ⟨_,(Bj1 ((qz.mono tl1).nw hS) g f e),?_⟩
   obtain ⟨t6,z,h⟩:=bnd h
   refine Ck9 H hS (y.mono tl1) z ?_;rintro w hS
   refine ⟨_,rfl,?_⟩
   refine Aa4 h ?_ ?_<;>intro hc h
   ·
    obtain rfl:=Aa0 h
    have h:=congrArg some (hO _ rfl)
    obtain rfl:=Aa0 h
    have h:=m
    cases Aa0 h
    exact hK _ (hS.pick (A:=[_]) [] rfl)
   obtain rfl:=Aa0 h
   exact hX _ rfl _ _ ⟨_,rfl,rfl,hS⟩
  obtain rfl:=Aa0 h
  have h:=congrArg some (hO _ rfl)
  obtain rfl:=Aa0 h
  exact hJ3 _ _ ⟨rfl,rfl,(hS.pick (A:=[_]) [] rfl)⟩
 clear l hS
 rintro s w ⟨rfl,rfl,hS⟩
 have h:=m
 try dsimp only
 cases Aa0 h
 exact hK _ hS
theorem Bk6 {qd qb qe qg l0_1 qf u0 u1 u2} (hS:Ho w0 w L) (qr:EU L l0_1 qb qe qg) (h:Ar8 qd l0_1 qf=some (u0,u1,u2)) (hK:∀ (a:OA) (b c:Nat) (d:World),Ho w0 d ((sl a b c (List.map (AA .u64) u1) N.Hr2)::L)→K (.agg #[.bool u0,.slice a b c,.int .i64 u2]) d):Aa1 P N.Ho2 #[.agg #[.bool qd,.slice qb qe qg,.int .i64 qf]] w K:=by
 refine H.r02_Dyad qd qb qe qg qf w _ ?_
 unfold Dh2
 unfold Ar8 at h
 try dsimp only
 refine Ab2 hS ?_;intro f w hS
 refine Ab2 hS ?_;intro g w hS
 refine ⟨_,hS.cel mp1 rfl,_,_,_,hS.cel mp1 rfl,_,hS.cel mp1 rfl,?_⟩
 refine Aa7 hS ?_;intro w hS
 obtain ⟨i,e,h⟩:=bnd h
 refine Al0 H hS (qr.mono tl2) e ?_;rintro j k l w hS
 refine ⟨_,_,_,rfl,?_⟩
 refine ⟨(hS.cel mp2 rfl),?_⟩
 refine ⟨(hS.cel mp2 rfl),?_⟩
 refine Aa7 hS ?_;intro w hS
 replace hS:=ro1 hS
 refine Aa8 hS rfl rfl ?_;intro w hS
 refine Aa8 hS rfl rfl ?_;intro w hS
 refine Aa8 hS rfl rfl ?_;intro w hS
 refine Aa7 hS ?_;intro w hS
 refine ⟨_,hS.cel mp0 rfl,_,_,_,hS.cel mp0 rfl,_,hS.cel mp0 rfl,?_⟩
 cases Aa0 h
 exact hK _ _ _ _ (hS.pick (A:=[_,_,_]) [1] rfl)
theorem Bg0 {a qj qq l0 u0} (hS:Ho w0 w L) (qx:EU L l0 a qj qq) (h:An6 l0=some u0) (hK:∀ e,Ho w0 e L→K (.int .i64 u0) e):Aa1 P N.Hj6 #[.slice a qj qq] w K:=by
 refine H.r02_NatBits a qj qq w _ ?_
 unfold Cc5
 unfold An6 at h
 try dsimp only
 obtain ⟨u,i,h⟩:=bnd h
 refine Al0 H hS qx i ?_;rintro v x y w hS
 refine ⟨_,_,_,rfl,?_⟩
 obtain ⟨z,j,h⟩:=bnd h
 obtain rfl:=Ai1 j ((Ent.sl mp0).nw hS)
 refine Aa4 h ?_ ?_<;>intro hc h
 ·
  cases Aa0 h
  exact hK _ (hS.pick (A:=[_]) [] rfl)
 obtain ⟨t3,k,h⟩:=bnd h
 obtain rfl:=Ai1 k ((Ent.sl mp0).nw hS)
 obtain ⟨t4,l,h⟩:=bnd h
 obtain rfl:=Ai1 l ((Ent.sl mp0).nw hS)
 obtain ⟨t5,m,h⟩:=bnd h
 obtain ⟨f,vo,n⟩:=atE m
 refine Ad6 ((Ent.sl mp0).nw hS) f vo n ?_;intro b3 o
 refine ⟨_,Ab8 ((Ent.sl mp0).nw hS) o f,?_⟩
 obtain ⟨p,g,r⟩:=bnd h
 refine Aa9 (fun s w=>∃ (b:Int),b=p∧s=(b,())∧Ho w0 w L) (fun J4 hJ4=>?_) ?_
 ·
  have h:=g
  refine Ab4 (fun s w t=>∃ (c:Int) (d:Int),(c,d)=t∧s=(c,d,())∧Ho w0 w L) ?_ h ⟨_,_,rfl,rfl,(hS.pick (A:=[_]) [] rfl)⟩
  clear h hS
  rintro s w t X q ⟨c,d,rfl,rfl,hS⟩ h hX hO
  unfold Ak0 at h
  try dsimp only
  refine Aa4 h ?_ ?_<;>intro hc h
  ·
   refine ⟨by decide,?_⟩
   obtain rfl:=Aa0 h
   exact hX _ rfl _ _ ⟨_,_,rfl,rfl,hS⟩
  obtain rfl:=Aa0 h
  have h:=congrArg some (hO _ rfl)
  exact hJ4 _ _ ⟨_,Aa0 h,rfl,hS⟩
 clear g hS
 rintro s w ⟨b,rfl,rfl,hS⟩
 have h:=r
 try dsimp only
 cases Aa0 h
 exact hK _ hS
theorem Am3 {qd qb qe qg l0_1 qf u0} (hS:Ho w0 w L) (qr:EU L l0_1 qb qe qg) (h:Af9 qd l0_1 qf=some u0) (hK:∀ a,Ho w0 a L→K (.bool u0) a):Aa1 P N.Hi0 #[.agg #[.bool qd,.slice qb qe qg,.int .i64 qf]] w K:=by
 refine H.r02_Num_Zero qd qb qe qg qf w _ ?_
 unfold Bt6
 unfold Af9 at h
 try dsimp only
 refine Ab2 hS ?_;intro c w hS
 refine ⟨_,_,_,hS.cel mp0 rfl,?_⟩
 obtain ⟨d,b,h⟩:=bnd h
 refine Bg0 H hS (qr.mono tl1) b ?_;rintro w hS
 refine ⟨_,rfl,?_⟩
 cases Aa0 h
 exact hK _ (hS.pick (A:=[_]) [] rfl)
theorem Av8 {qd qb qe qg l0_1 qf u0} (hS:Ho w0 w L) (qr:EU L l0_1 qb qe qg) (h:Af7 qd l0_1 qf=some u0) (hK:∀ a,Ho w0 a L→K (.int .i64 u0) a):Aa1 P N.Hi3 #[.agg #[.bool qd,.slice qb qe qg,.int .i64 qf]] w K:=by
 refine H.r02_Num_Sign qd qb qe qg qf w _ ?_
 unfold Bu6
 unfold Af7 at h
 try dsimp only
 refine Ab2 hS ?_;intro c w hS
 refine ⟨_,hS.cel mp0 rfl,_,_,_,hS.cel mp0 rfl,_,hS.cel mp0 rfl,?_⟩
 obtain ⟨d,b,h⟩:=bnd h
 refine Am3 H hS (qr.mono tl1) b ?_;rintro w hS
 refine ⟨_,rfl,?_⟩
 refine Aa4 h ?_ ?_<;>intro hc h
 ·
  cases Aa0 h
  exact hK _ (hS.pick (A:=[_]) [] rfl)
 refine ⟨_,hS.cel mp0 rfl,?_⟩
 refine Aa4 h ?_ ?_<;>intro hc h
 ·
  cases Aa0 h
  exact hK _ (hS.pick (A:=[_]) [] rfl)
 cases Aa0 h
 exact hK _ (hS.pick (A:=[_]) [] rfl)
theorem Ay6 {qd qb qe qg l0_1 qf u0} (hS:Ho w0 w L) (qr:EU L l0_1 qb qe qg) (h:Ak2 qd l0_1 qf=some u0) (hK:∀ a,Ho w0 a L→K (.int .i64 u0) a):Aa1 P N.Hk0 #[.agg #[.bool qd,.slice qb qe qg,.int .i64 qf]] w K:=by
 refine H.r02_Num_top qd qb qe qg qf w _ ?_
 unfold By5
 unfold Ak2 at h
 try dsimp only
 refine Ab2 hS ?_;intro c w hS
 refine ⟨_,hS.cel mp0 rfl,_,_,_,hS.cel mp0 rfl,?_⟩
 refine Aa7 hS ?_;intro w hS
 obtain ⟨d,b,h⟩:=bnd h
 refine Bg0 H hS (qr.mono tl1) b ?_;rintro w hS
 refine ⟨_,rfl,?_⟩
 refine ⟨(hS.cel mp0 rfl),?_⟩
 refine Aa7 hS ?_;intro w hS
 cases Aa0 h
 exact hK _ (hS.pick (A:=[_]) [] rfl)
theorem Bf1 {qd qb qe qg l0_1 qf u0 u1 u2} (hS:Ho w0 w L) (qr:EU L l0_1 qb qe qg) (h:Ap8 qd l0_1 qf=some (u0,u1,u2)) (hK:∀ a,l0_1=u1→Ho w0 a L→K (.agg #[.bool u0,.slice qb qe qg,.int .i64 u2]) a):Aa1 P N.Hn6 #[.agg #[.bool qd,.slice qb qe qg,.int .i64 qf]] w K:=by
 refine H.r02_Minus qd qb qe qg qf w _ ?_
 unfold Ct5
 unfold Ap8 at h
 try dsimp only
 refine Ab2 hS ?_;intro b w hS
 refine Ab2 hS ?_;intro c w hS
 refine ⟨_,hS.cel mp1 rfl,_,_,_,hS.cel mp1 rfl,_,hS.cel mp1 rfl,?_⟩
 refine Aa8 hS rfl rfl ?_;intro w hS
 refine Aa8 hS rfl rfl ?_;intro w hS
 refine Aa8 hS rfl rfl ?_;intro w hS
 refine ⟨_,hS.cel mp0 rfl,_,_,_,hS.cel mp0 rfl,_,hS.cel mp0 rfl,?_⟩
 cases Aa0 h
 exact hK _ rfl (hS.pick (A:=[_,_]) [] rfl)
theorem Cg9 {e qj qq l0 a u0} (hS:Ho w0 w L) (qx:EU L l0 e qj qq) (h:At9 l0 a=some u0) (hK:∀ (a0:OA) (n0 c0:Nat) (w1:World),Ho w0 w1 ((sl a0 n0 c0 (List.map (AA .u64) u0) N.Hr2)::L)→K (.slice a0 n0 c0) w1):Aa1 P N.Hn0 #[.slice e qj qq,.int .i64 a] w K:=by
 refine H.r02_NatUp e qj qq a w _ ?_
 unfold Cu0
 unfold At9 at h
 try dsimp only
 obtain ⟨f,af,h⟩:=bnd h
 refine Ak5 H hS qx af ?_;rintro g i j w hS
 refine ⟨_,_,_,rfl,?_⟩
 obtain ⟨t2,ag,h⟩:=bnd h
 obtain rfl:=Ai1 ag ((Ent.sl mp0).nw hS)
 refine Aa4 h ?_ ?_<;>intro hc h
 ·
  replace hS:=hS.none (α:=Int) (enc:=(AA .u64)) (t:=N.Hr2)
  cases Aa0 h
  exact hK _ _ _ _ (hS.pick (A:=[_,_]) [0] rfl)
 refine ⟨by decide,?_⟩
 obtain ⟨t3,ah,h⟩:=bnd h
 obtain ⟨rfl,aa⟩:=mkE ah
 refine Ew9 (enc:=(AA .u64)) hS aa rfl ?_;clear hS aa;intro r2 w hS
 obtain ⟨o3,h3,c3⟩:=bnd h
 refine Aa9 (fun s w=>∃ (b:Int),b=o3∧s=(b,())∧Ho w0 w ((sl (some ⟨r2,0,none⟩) (((i64.wrap (a.tdiv 32))).toNat) (((i64.wrap (a.tdiv 32))).toNat) (List.map (AA .u64) (List.replicate (((i64.wrap (a.tdiv 32))).toNat) 0)) N.Hr2)::(sl g i j (List.map (AA .u64) f) N.Hr2)::L)) (fun J3 hJ3=>?_) ?_
 ·
  have h:=h3
  refine Ab4 (fun s w t=>∃ (k:Int) (l:Int),(k,l)=t∧s=(k,l,())∧Ho w0 w ((sl (some ⟨r2,0,none⟩) (((i64.wrap (a.tdiv 32))).toNat) (((i64.wrap (a.tdiv 32))).toNat) (List.map (AA .u64) (List.replicate (((i64.wrap (a.tdiv 32))).toNat) 0)) N.Hr2)::(sl g i j (List.map (AA .u64) f) N.Hr2)::L)) ?_ h ⟨_,_,rfl,rfl,hS⟩
  clear h hS
  rintro s w t X q ⟨k,l,rfl,rfl,hS⟩ h hX hO
  unfold Ay8 at h
  try dsimp only
  refine ⟨by decide,?_⟩
  refine Aa4 h ?_ ?_<;>intro hc h
  ·
   obtain rfl:=Aa0 h
   exact hX _ rfl _ _ ⟨_,_,rfl,rfl,hS⟩
  obtain rfl:=Aa0 h
  have h:=congrArg some (hO _ rfl)
  exact hJ3 _ _ ⟨_,Aa0 h,rfl,hS⟩
 clear h3 hS
 rintro s w ⟨b,rfl,rfl,hS⟩
 have h:=c3
 try dsimp only
 obtain ⟨o7,h7,c7⟩:=bnd h
 refine Aa9 (fun s w=>∃ (c:Int) (n:OA) (o:Nat) (p:Nat) (r:List Int),(c,r)=o7∧s=((n,o,p),c,())∧Ho w0 w ((sl n o p (List.map (AA .u64) r) N.Hr2)::L)) (fun J7 hJ7=>?_) ?_
 ·
  have h:=h7
  refine Ab4 (fun s w t=>∃ (d:Int) (u:Int) (v:OA) (x:Nat) (y:Nat) (z:List Int),(d,u,z)=t∧s=((v,x,y),d,u,())∧Ho w0 w ((sl g i j (List.map (AA .u64) f) N.Hr2)::(sl v x y (List.map (AA .u64) z) N.Hr2)::L)) ?_ h ⟨_,_,_,_,_,_,rfl,rfl,(hS.pick (A:=[_,_]) [1,0] rfl)⟩
  clear h hS
  rintro s w t X q ⟨d,u,v,x,y,z,rfl,rfl,hS⟩ h hX hO
  unfold Ao7 at h
  try dsimp only
  obtain ⟨av,ai,h⟩:=bnd h
  obtain rfl:=Ai1 ai ((Ent.sl mp0).nw hS)
  refine Aa4 h ?_ ?_<;>intro hc h
  ·
   obtain ⟨ab,aj,h⟩:=bnd h
   obtain ⟨ac,vy,ak⟩:=atE aj
   refine Ad6 ((Ent.sl mp0).nw hS) ac vy ak ?_;intro aw al
   refine ⟨_,Ab8 ((Ent.sl mp0).nw hS) al ac,?_⟩
   refine ⟨by decide,?_⟩
   obtain ⟨am,an,h⟩:=bnd h
   obtain rfl:([((u64.wrap ((u64.wrap (ab*b))+d)).tmod 4294967296)]:List Int)=am:=Aa0 an
   refine Ba4 (ks:=[((u64.wrap ((u64.wrap (ab*b))+d)).tmod 4294967296)]) (enc:=(AA .u64)) (m:=1) hS rfl rfl ?_;intro ax w hS
   obtain ⟨ay,ao,h⟩:=bnd h
   obtain ⟨rfl,ad⟩:=Eq9 ao
   replace hS:=ro2 hS
   refine Bv8 hS ad ((Ent.sl mp1).nw hS) (fun _=>rfl) rfl ?_;clear hS ad;intro az a2 w hS
   refine ⟨by decide,?_⟩
   obtain rfl:=Aa0 h
   exact hX _ rfl _ _ ⟨_,_,_,_,_,_,rfl,rfl,(hS.pick (A:=[_,_,_]) [2,0] rfl)⟩
  obtain rfl:=Aa0 h
  have h:=congrArg some (hO _ rfl)
  obtain rfl:=Aa0 h
  exact hJ7 _ _ ⟨_,_,_,_,_,rfl,rfl,(hS.pick (A:=[_,_]) [1] rfl)⟩
 clear h7 hS
 rintro s w ⟨c,n,o,p,r,rfl,rfl,hS⟩
 have h:=c7
 try dsimp only
 obtain ⟨ap,aq,h⟩:=bnd h
 obtain rfl:([c]:List Int)=ap:=Aa0 aq
 refine Ba4 (ks:=[c]) (enc:=(AA .u64)) (m:=1) hS rfl rfl ?_;intro a3 w hS
 obtain ⟨a5,ar,h⟩:=bnd h
 obtain ⟨rfl,ae⟩:=Eq9 ar
 replace hS:=ro1 hS
 refine Bv8 hS ae ((Ent.sl mp1).nw hS) (fun _=>rfl) rfl ?_;clear hS ae;intro a6 a7 w hS
 obtain ⟨a9,au,h⟩:=bnd h
 refine Az1 H hS (Ent.sl mp0) au ?_;rintro ba bb bc w hS
 refine ⟨_,_,_,rfl,?_⟩
 cases Aa0 h
 exact hK _ _ _ _ (hS.pick (A:=[_,_,_]) [0] rfl)
theorem Bq6 {a qj qq l0 b u0} (hS:Ho w0 w L) (qx:EU L l0 a qj qq) (h:At6 l0 b=some u0) (hK:∀ c,Ho w0 c L→K (.int .u64 u0) c):Aa1 P N.Hn3 #[.slice a qj qq,.int .i64 b] w K:=by
 refine H.r02_digit a qj qq b w _ ?_
 unfold Cs6
 unfold At6 at h
 try dsimp only
 obtain ⟨j,e,h⟩:=bnd h
 obtain rfl:=Ai1 e (qx.nw hS)
 refine Aa4 h ?_ ?_<;>intro hc h
 ·
  obtain ⟨k,f,h⟩:=bnd h
  obtain ⟨d,qu,g⟩:=atE f
  refine Ad6 (qx.nw hS) d qu g ?_;intro l i
  refine ⟨_,Ab8 (qx.nw hS) i d,?_⟩
  cases Aa0 h
  exact hK _ hS
 cases Aa0 h
 exact hK _ hS
theorem Bz3 {f qj qq l0 g qu vf p u0} (hS:Ho w0 w L) (qx:EU L l0 f qj qq) (vg:EU L p g qu vf) (h:Aq1 l0 p=some u0) (hK:∀ (a0:OA) (r u:Nat) (v:World),Ho w0 v ((sl a0 r u (List.map (AA .u64) u0) N.Hr2)::L)→K (.slice a0 r u) v):Aa1 P N.Hk8 #[.slice f qj qq,.slice g qu vf] w K:=by
 refine H.r02_NatAdd f qj qq g qu vf w _ ?_
 unfold Ci4
 unfold Aq1 at h
 try dsimp only
 obtain ⟨x,ae,h⟩:=bnd h
 refine Ak5 H hS qx ae ?_;rintro y z c1 w hS
 refine ⟨_,_,_,rfl,?_⟩
 obtain ⟨t2,af,h⟩:=bnd h
 refine Ak5 H hS (vg.mono tl1) af ?_;rintro a2 m2 c2 w hS
 refine ⟨_,_,_,rfl,?_⟩
 obtain ⟨o6,h6,c6⟩:=bnd h
 refine Aa9 (fun s w=>∃ (i:OA) (j:Nat) (k:Nat) (l:List Int),l=o6∧s=((i,j,k),())∧Ho w0 w ((sl i j k (List.map (AA .u64) l) N.Hr2)::L)) (fun J6 hJ6=>?_) ?_
 ·
  have h:=h6
  replace hS:=hS.none (α:=Int) (enc:=(AA .u64)) (t:=N.Hr2)
  refine Ab4 (fun s w t=>∃ (a:Int) (n:Int) (b:OA) (c:Nat) (d:Nat) (e:List Int),(a,n,e)=t∧s=((b,c,d),a,n,())∧Ho w0 w ((sl a2 m2 c2 (List.map (AA .u64) t2) N.Hr2)::(sl y z c1 (List.map (AA .u64) x) N.Hr2)::(sl b c d (List.map (AA .u64) e) N.Hr2)::L)) ?_ h ⟨_,_,_,_,_,_,rfl,rfl,(hS.pick (A:=[_,_,_]) [1,1,0] rfl)⟩
  clear h hS
  rintro s w t X q ⟨a,n,b,c,d,e,rfl,rfl,hS⟩ h hX hO
  unfold Aj1 at h
  try dsimp only
  obtain ⟨ag,aa,ah⟩:=bnd h
  refine Aa9 (fun s w=>∃ (o:Bool),o=ag∧s=(o,())∧Ho w0 w ((sl a2 m2 c2 (List.map (AA .u64) t2) N.Hr2)::(sl y z c1 (List.map (AA .u64) x) N.Hr2)::(sl b c d (List.map (AA .u64) e) N.Hr2)::L)) (fun aq hJ10=>?_) ?_
  ·
   have h:=aa
   obtain ⟨t8,ai,h⟩:=bnd h
   obtain rfl:=Ai1 ai ((Ent.sl mp1).nw hS)
   refine Aa4 h ?_ ?_<;>intro hc h
   ·
    obtain ⟨t9,aj,h⟩:=bnd h
    obtain rfl:=Ai1 aj ((Ent.sl mp0).nw hS)
    refine Aa4 h ?_ ?_<;>intro hc h
    ·
     exact hJ10 _ _ ⟨_,Aa0 h,rfl,hS⟩
    exact hJ10 _ _ ⟨_,Aa0 h,rfl,hS⟩
   exact hJ10 _ _ ⟨_,Aa0 h,rfl,hS⟩
  clear aa hS
  rintro s w ⟨o,rfl,rfl,hS⟩
  have h:=ah
  try dsimp only
  refine Aa4 h ?_ ?_<;>intro hc h
  ·
   obtain ⟨ab,ak,h⟩:=bnd h
   refine Bq6 H hS (Ent.sl mp1) ak ?_;rintro w hS
   refine ⟨_,rfl,?_⟩
   obtain ⟨ac,al,h⟩:=bnd h
   refine Bq6 H hS (Ent.sl mp0) al ?_;rintro w hS
   refine ⟨_,rfl,?_⟩
   refine ⟨by decide,?_⟩
   obtain ⟨am,an,h⟩:=bnd h
   obtain rfl:([((u64.wrap ((u64.wrap (ab+ac))+a)).tmod 4294967296)]:List Int)=am:=Aa0 an
   refine Ba4 (ks:=[((u64.wrap ((u64.wrap (ab+ac))+a)).tmod 4294967296)]) (enc:=(AA .u64)) (m:=1) hS rfl rfl ?_;intro ar w hS
   obtain ⟨au,ao,h⟩:=bnd h
   obtain ⟨rfl,ad⟩:=Eq9 ao
   replace hS:=ro3 hS
   refine Bv8 hS ad ((Ent.sl mp1).nw hS) (fun _=>rfl) rfl ?_;clear hS ad;intro av aw w hS
   refine ⟨by decide,?_⟩
   obtain rfl:=Aa0 h
   exact hX _ rfl _ _ ⟨_,_,_,_,_,_,rfl,rfl,(hS.pick (A:=[_,_,_,_]) [2,2,0] rfl)⟩
  obtain rfl:=Aa0 h
  have h:=congrArg some (hO _ rfl)
  obtain rfl:=Aa0 h
  exact hJ6 _ _ ⟨_,_,_,_,rfl,rfl,(hS.pick (A:=[_,_,_]) [2] rfl)⟩
 clear h6 hS
 rintro s w ⟨i,j,k,l,rfl,rfl,hS⟩
 have h:=c6
 try dsimp only
 obtain ⟨ax,ap,h⟩:=bnd h
 refine Az1 H hS (Ent.sl mp0) ap ?_;rintro ay az a4 w hS
 refine ⟨_,_,_,rfl,?_⟩
 cases Aa0 h
 exact hK _ _ _ _ (hS.pick (A:=[_,_]) [0] rfl)
theorem By8 {a qj qq l0 b qu vf e u0} (hS:Ho w0 w L) (qx:EU L l0 a qj qq) (vg:EU L e b qu vf) (h:Ap9 l0 e=some u0) (hK:∀ f,Ho w0 f L→K (.int .i64 u0) f):Aa1 P N.Hl2 #[.slice a qj qq,.slice b qu vf] w K:=by
 refine H.r02_NatCmp a qj qq b qu vf w _ ?_
 unfold Cg5
 unfold Ap9 at h
 try dsimp only
 obtain ⟨m,n,h⟩:=bnd h
 refine Al0 H hS qx n ?_;rintro o p r w hS
 refine ⟨_,_,_,rfl,?_⟩
 obtain ⟨u,v,h⟩:=bnd h
 refine Al0 H hS (vg.mono tl1) v ?_;rintro x y z w hS
 refine ⟨_,_,_,rfl,?_⟩
 obtain ⟨t3,aa,h⟩:=bnd h
 obtain rfl:=Ai1 aa ((Ent.sl mp1).nw hS)
 obtain ⟨t4,ab,h⟩:=bnd h
 obtain rfl:=Ai1 ab ((Ent.sl mp0).nw hS)
 refine Aa4 h ?_ ?_<;>intro hc h
 ·
  obtain ⟨t5,ac,h⟩:=bnd h
  obtain rfl:=Ai1 ac ((Ent.sl mp1).nw hS)
  obtain ⟨t6,ad,h⟩:=bnd h
  obtain rfl:=Ai1 ad ((Ent.sl mp0).nw hS)
  refine Aa4 h ?_ ?_<;>intro hc h
  ·
   cases Aa0 h
   exact hK _ (hS.pick (A:=[_,_]) [] rfl)
  cases Aa0 h
  exact hK _ (hS.pick (A:=[_,_]) [] rfl)
 obtain ⟨t7,ae,h⟩:=bnd h
 obtain rfl:=Ai1 ae ((Ent.sl mp1).nw hS)
 obtain ⟨o3,g,c⟩:=bnd h
 refine Aa9 (fun s w =>  .inl ()=o3∧s=(())∧Ho w0 w L) (fun J3 hJ3=>?_) ?_
 ·
  have h:=g
  refine Ab4 (fun s w t=>∃ (d:Int),d=t∧s=(d,())∧Ho w0 w ((sl x y z (List.map (AA .u64) u) N.Hr2)::(sl o p r (List.map (AA .u64) m) N.Hr2)::L)) ?_ h ⟨_,rfl,rfl,hS⟩
  clear h hS
  rintro s w t X q ⟨d,rfl,rfl,hS⟩ h hX hO
  unfold Ai9 at h
  try dsimp only
  refine Aa4 h ?_ ?_<;>intro hc h
  ·
   obtain ⟨t9,af,h⟩:=bnd h
   obtain ⟨i,vx,ag⟩:=atE af
   refine Ad6 ((Ent.sl mp1).nw hS) i vx ag ?_;intro b5 ah
   refine ⟨_,Ab8 ((Ent.sl mp1).nw hS) ah i,?_⟩
   obtain ⟨ar,ai,h⟩:=bnd h
   obtain ⟨j,ya,aj⟩:=atE ai
   refine Ad6 ((Ent.sl mp0).nw hS) j ya aj ?_;intro b7 ak
   refine ⟨_,Ab8 ((Ent.sl mp0).nw hS) ak j,?_⟩
   refine Aa7 hS ?_;intro w hS
   refine Aa4 h ?_ ?_<;>intro hc h
   ·
    obtain rfl:=Aa0 h
    have h:=congrArg some (hO _ rfl)
    obtain rfl:=Aa0 h
    have h:=c
    cases Aa0 h
    exact hK _ (hS.pick (A:=[_,_]) [] rfl)
   obtain ⟨au,al,h⟩:=bnd h
   obtain ⟨k,vz,am⟩:=atE al
   refine Ad6 ((Ent.sl mp1).nw hS) k vz am ?_;intro b9 an
   refine ⟨_,Ab8 ((Ent.sl mp1).nw hS) an k,?_⟩
   obtain ⟨av,ao,h⟩:=bnd h
   obtain ⟨l,yb,ap⟩:=atE ao
   refine Ad6 ((Ent.sl mp0).nw hS) l yb ap ?_;intro aw aq
   refine ⟨_,Ab8 ((Ent.sl mp0).nw hS) aq l,?_⟩
   refine Aa7 hS ?_;intro w hS
   refine Aa4 h ?_ ?_<;>intro hc h
   ·
    obtain rfl:=Aa0 h
    have h:=congrArg some (hO _ rfl)
    obtain rfl:=Aa0 h
    have h:=c
    cases Aa0 h
    exact hK _ (hS.pick (A:=[_,_]) [] rfl)
   obtain rfl:=Aa0 h
   exact hX _ rfl _ _ ⟨_,rfl,rfl,hS⟩
  obtain rfl:=Aa0 h
  have h:=congrArg some (hO _ rfl)
  obtain rfl:=Aa0 h
  exact hJ3 _ _ ⟨rfl,rfl,(hS.pick (A:=[_,_]) [] rfl)⟩
 clear g hS
 rintro s w ⟨rfl,rfl,hS⟩
 have h:=c
 try dsimp only
 cases Aa0 h
 exact hK _ hS
theorem Bb4 {b qj qq l0 c qu vf p u0} (hS:Ho w0 w L) (qx:EU L l0 b qj qq) (vg:EU L p c qu vf) (h:Ai3 l0 p=some u0) (hK:∀ (a0:OA) (r u:Nat) (v:World),Ho w0 v ((sl a0 r u (List.map (AA .u64) u0) N.Hr2)::L)→K (.slice a0 r u) v):Aa1 P N.Hk4 #[.slice b qj qq,.slice c qu vf] w K:=by
 refine H.r02_NatSub b qj qq c qu vf w _ ?_
 unfold Ch5
 unfold Ai3 at h
 try dsimp only
 obtain ⟨t1,ab,h⟩:=bnd h
 refine Ak5 H hS qx ab ?_;rintro a1 m1 c1 w hS
 refine ⟨_,_,_,rfl,?_⟩
 obtain ⟨t2,ac,h⟩:=bnd h
 refine Ak5 H hS (vg.mono tl1) ac ?_;rintro a2 m2 c2 w hS
 refine ⟨_,_,_,rfl,?_⟩
 obtain ⟨o6,x,c6⟩:=bnd h
 refine Aa9 (fun s w=>∃ (d:OA) (e:Nat) (f:Nat) (g:List Int),g=o6∧s=((d,e,f),())∧Ho w0 w ((sl d e f (List.map (AA .u64) g) N.Hr2)::L)) (fun J6 hJ6=>?_) ?_
 ·
  have h:=x
  replace hS:=hS.none (α:=Int) (enc:=(AA .u64)) (t:=N.Hr2)
  refine Ab4 (fun s w t=>∃ (a:Int) (i:Int) (j:OA) (k:Nat) (l:Nat) (n:List Int),(a,i,n)=t∧s=((j,k,l),a,i,())∧Ho w0 w ((sl a2 m2 c2 (List.map (AA .u64) t2) N.Hr2)::(sl a1 m1 c1 (List.map (AA .u64) t1) N.Hr2)::(sl j k l (List.map (AA .u64) n) N.Hr2)::L)) ?_ h ⟨_,_,_,_,_,_,rfl,rfl,(hS.pick (A:=[_,_,_]) [1,1,0] rfl)⟩
  clear h hS
  rintro s w t X q ⟨a,i,j,k,l,n,rfl,rfl,hS⟩ h hX hO
  unfold Al9 at h
  try dsimp only
  obtain ⟨t7,ad,h⟩:=bnd h
  obtain rfl:=Ai1 ad ((Ent.sl mp1).nw hS)
  refine Aa4 h ?_ ?_<;>intro hc h
  ·
   obtain ⟨y,ae,h⟩:=bnd h
   obtain ⟨o,yb,af⟩:=atE ae
   refine Ad6 ((Ent.sl mp1).nw hS) o yb af ?_;intro al z
   refine ⟨_,Ab8 ((Ent.sl mp1).nw hS) z o,?_⟩
   refine Aa7 hS ?_;intro w hS
   obtain ⟨t9,ag,h⟩:=bnd h
   refine Bq6 H hS (Ent.sl mp0) ag ?_;rintro w hS
   refine ⟨_,rfl,?_⟩
   refine ⟨Ab8 ((Ent.sl mp1).nw hS) z o,?_⟩
   refine Aa7 hS ?_;intro w hS
   refine ⟨by decide,?_⟩
   obtain ⟨ah,ai,h⟩:=bnd h
   obtain rfl:([((u64.wrap ((u64.wrap ((u64.wrap (4294967296+y))-t9))-a)).tmod 4294967296)]:List Int)=ah:=Aa0 ai
   refine Ba4 (ks:=[((u64.wrap ((u64.wrap ((u64.wrap (4294967296+y))-t9))-a)).tmod 4294967296)]) (enc:=(AA .u64)) (m:=1) hS rfl rfl ?_;intro am w hS
   obtain ⟨an,aj,h⟩:=bnd h
   obtain ⟨rfl,aa⟩:=Eq9 aj
   replace hS:=ro3 hS
   refine Bv8 hS aa ((Ent.sl mp1).nw hS) (fun _=>rfl) rfl ?_;clear hS aa;intro ao ap w hS
   refine ⟨by decide,?_⟩
   obtain rfl:=Aa0 h
   exact hX _ rfl _ _ ⟨_,_,_,_,_,_,rfl,rfl,(hS.pick (A:=[_,_,_,_]) [2,2,0] rfl)⟩
  obtain rfl:=Aa0 h
  have h:=congrArg some (hO _ rfl)
  obtain rfl:=Aa0 h
  exact hJ6 _ _ ⟨_,_,_,_,rfl,rfl,(hS.pick (A:=[_,_,_]) [2] rfl)⟩
 clear x hS
 rintro s w ⟨d,e,f,g,rfl,rfl,hS⟩
 have h:=c6
 try dsimp only
 obtain ⟨aq,ak,h⟩:=bnd h
 refine Az1 H hS (Ent.sl mp0) ak ?_;rintro ar au av w hS
 refine ⟨_,_,_,rfl,?_⟩
 cases Aa0 h
 exact hK _ _ _ _ (hS.pick (A:=[_,_]) [0] rfl)
theorem Dr4 {qd qb qe qg l0_1 qf qt qs qo qp l1_1 qw u0 u1 u2} (hS:Ho w0 w L) (qr:EU L l0_1 qb qe qg) (qy:EU L l1_1 qs qo qp) (hx:Bv6 qd l0_1 qf qt l1_1 qw=some (u0,u1,u2)) (hK:∀ (a:It) (b:OA) (c d:Nat) (e:World),(∀ L1,a∈L1→Ent L1 (rdA (List.map (AA .u64) l0_1) qb qe qg)→Ent L1 (rdA (List.map (AA .u64) l1_1) qs qo qp)→Ent L1 (rdA (List.map (AA .u64) u1) b c d))→Ho w0 e (a::L)→K (.agg #[.bool u0,.slice b c d,.int .i64 u2]) e):Aa1 P N.Ho5 #[.agg #[.bool qd,.slice qb qe qg,.int .i64 qf],.agg #[.bool qt,.slice qs qo qp,.int .i64 qw]] w K:=by
 unfold Bv6 at hx
 cases hx
theorem Dw3 {qd qb qe qg l0_1 qf qt qs qo qp l1_1 qw u0 u1 u2} (hS:Ho w0 w L) (qr:EU L l0_1 qb qe qg) (qy:EU L l1_1 qs qo qp) (h:Bk0 qd l0_1 qf qt l1_1 qw=some (u0,u1,u2)) (hK:∀ (c:It) (d:OA) (e f:Nat) (g:World),(∀ L1,c∈L1→Ent L1 (rdA (List.map (AA .u64) l0_1) qb qe qg)→Ent L1 (rdA (List.map (AA .u64) l1_1) qs qo qp)→Ent L1 (rdA (List.map (AA .u64) u1) d e f))→Ho w0 g (c::L)→K (.agg #[.bool u0,.slice d e f,.int .i64 u2]) g):Aa1 P N.Ho5 #[.agg #[.bool qd,.slice qb qe qg,.int .i64 qf],.agg #[.bool qt,.slice qs qo qp,.int .i64 qw]] w K:=by
 refine H.r02_Plus qd qb qe qg qf qt qs qo qp qw w _ ?_
 unfold Cd7
 unfold Bk0 at h
 try dsimp only
 refine Ab2 hS ?_;intro r w hS
 refine Ab2 hS ?_;intro s w hS
 refine Ab2 hS ?_;intro t w hS
 refine ⟨_,hS.cel mp2 rfl,_,_,_,hS.cel mp2 rfl,_,hS.cel mp2 rfl,?_⟩
 obtain ⟨u,j,h⟩:=bnd h
 refine Am3 H hS (qr.mono tl3) j ?_;rintro w hS
 refine ⟨_,rfl,?_⟩
 refine Aa4 h ?_ ?_<;>intro hc h
 ·
  refine ⟨_,hS.cel mp1 rfl,_,_,_,hS.cel mp1 rfl,_,hS.cel mp1 rfl,?_⟩
  refine Aa8 hS rfl rfl ?_;intro w hS
  refine Aa8 hS rfl rfl ?_;intro w hS
  refine Aa8 hS rfl rfl ?_;intro w hS
  refine ⟨_,hS.cel mp0 rfl,_,_,_,hS.cel mp0 rfl,_,hS.cel mp0 rfl,?_⟩
  replace hS:=hS.voidItem
  cases Aa0 h
  exact hK _ _ _ _ _ (fun _ hm a b=>b) (hS.pick (A:=[_,_,_,_]) [0] rfl)
 refine ⟨_,hS.cel mp1 rfl,_,_,_,hS.cel mp1 rfl,_,hS.cel mp1 rfl,?_⟩
 obtain ⟨v,k,h⟩:=bnd h
 refine Am3 H hS (qy.mono tl3) k ?_;rintro w hS
 refine ⟨_,rfl,?_⟩
 refine Aa4 h ?_ ?_<;>intro hc h
 ·
  refine ⟨_,hS.cel mp2 rfl,_,_,_,hS.cel mp2 rfl,_,hS.cel mp2 rfl,?_⟩
  refine Aa8 hS rfl rfl ?_;intro w hS
  refine Aa8 hS rfl rfl ?_;intro w hS
  refine Aa8 hS rfl rfl ?_;intro w hS
  refine ⟨_,hS.cel mp0 rfl,_,_,_,hS.cel mp0 rfl,_,hS.cel mp0 rfl,?_⟩
  replace hS:=hS.voidItem
  cases Aa0 h
  exact hK _ _ _ _ _ (fun _ hm a b=>a) (hS.pick (A:=[_,_,_,_]) [0] rfl)
 refine ⟨_,hS.cel mp2 rfl,_,hS.cel mp1 rfl,?_⟩
 refine Aa4 h ?_ ?_<;>intro hc h
 ·
  refine ⟨_,hS.cel mp1 rfl,_,_,_,hS.cel mp1 rfl,_,hS.cel mp1 rfl,_,hS.cel mp2 rfl,_,_,_,hS.cel mp2 rfl,_,hS.cel mp2 rfl,?_⟩
  obtain ⟨⟨x,y,z⟩,i,h⟩:=bnd h
  refine Dr4 H hS (qy.mono tl3) (qr.mono tl3) i ?_;clear hS i;rintro aa a4 m4 c4 w l hS
  refine ⟨_,_,_,_,_,rfl,?_⟩
  replace hS:=ro1 hS
  refine Aa8 hS rfl rfl ?_;intro w hS
  refine Aa8 hS rfl rfl ?_;intro w hS
  refine Aa8 hS rfl rfl ?_;intro w hS
  refine ⟨_,hS.cel mp0 rfl,_,_,_,hS.cel mp0 rfl,_,hS.cel mp0 rfl,?_⟩
  cases Aa0 h
  exact hK _ _ _ _ _ (fun _ hm a b=>(l _ hm b a)) (hS.pick (A:=[_,_,_,_]) [1] rfl)
 refine ⟨_,_,_,hS.cel mp2 rfl,_,_,_,hS.cel mp1 rfl,_,hS.cel mp1 rfl,_,hS.cel mp2 rfl,?_⟩
 obtain ⟨t6,m,h⟩:=bnd h
 refine Cg9 H hS (qy.mono tl3) m ?_;rintro a5 m5 c5 w hS
 refine ⟨_,_,_,rfl,?_⟩
 refine ⟨_,hS.cel mp3 rfl,_,hS.cel mp2 rfl,?_⟩
 refine Aa4 h ?_ ?_<;>intro hc h
 ·
  refine ⟨_,hS.cel mp3 rfl,_,hS.cel mp3 rfl,?_⟩
  refine Aa7 hS ?_;intro w hS
  obtain ⟨t7,n,h⟩:=bnd h
  refine Bz3 H hS (qr.mono tl4) (Ent.sl mp0) n ?_;rintro a6 m6 c6 w hS
  refine ⟨_,_,_,rfl,?_⟩
  refine ⟨(hS.cel mp4 rfl),?_⟩
  refine ⟨(hS.cel mp4 rfl),?_⟩
  refine Aa7 hS ?_;intro w hS
  replace hS:=ro2 hS
  refine Aa8 hS rfl rfl ?_;intro w hS
  refine Aa8 hS rfl rfl ?_;intro w hS
  refine Aa8 hS rfl rfl ?_;intro w hS
  refine Aa7 hS ?_;intro w hS
  refine ⟨_,hS.cel mp0 rfl,_,_,_,hS.cel mp0 rfl,_,hS.cel mp0 rfl,?_⟩
  cases Aa0 h
  exact hK _ _ _ _ _ (fun _ hm a b=>(Ent.sl hm)) (hS.pick (A:=[_,_,_,_,_]) [1] rfl)
 obtain ⟨t8,o,h⟩:=bnd h
 refine By8 H hS (qr.mono tl4) (Ent.sl mp0) o ?_;rintro w hS
 refine ⟨_,rfl,?_⟩
 refine Aa4 h ?_ ?_<;>intro hc h
 ·
  refine ⟨_,hS.cel mp3 rfl,_,hS.cel mp3 rfl,?_⟩
  refine Aa7 hS ?_;intro w hS
  obtain ⟨t9,p,h⟩:=bnd h
  refine Bb4 H hS (qr.mono tl4) (Ent.sl mp0) p ?_;rintro a7 m7 c7 w hS
  refine ⟨_,_,_,rfl,?_⟩
  refine ⟨(hS.cel mp4 rfl),?_⟩
  refine ⟨(hS.cel mp4 rfl),?_⟩
  refine Aa7 hS ?_;intro w hS
  replace hS:=ro2 hS
  refine Aa8 hS rfl rfl ?_;intro w hS
  refine Aa8 hS rfl rfl ?_;intro w hS
  refine Aa8 hS rfl rfl ?_;intro w hS
  refine Aa7 hS ?_;intro w hS
  refine ⟨_,hS.cel mp0 rfl,_,_,_,hS.cel mp0 rfl,_,hS.cel mp0 rfl,?_⟩
  cases Aa0 h
  exact hK _ _ _ _ _ (fun _ hm a b=>(Ent.sl hm)) (hS.pick (A:=[_,_,_,_,_]) [1] rfl)
 refine ⟨_,hS.cel mp2 rfl,_,hS.cel mp3 rfl,?_⟩
 refine Aa7 hS ?_;intro w hS
 obtain ⟨ab,q,h⟩:=bnd h
 refine Bb4 H hS (Ent.sl mp0) (qr.mono tl4) q ?_;rintro a8 m8 c8 w hS
 refine ⟨_,_,_,rfl,?_⟩
 refine ⟨(hS.cel mp4 rfl),?_⟩
 refine ⟨(hS.cel mp3 rfl),?_⟩
 refine Aa7 hS ?_;intro w hS
 replace hS:=ro2 hS
 refine Aa8 hS rfl rfl ?_;intro w hS
 refine Aa8 hS rfl rfl ?_;intro w hS
 refine Aa8 hS rfl rfl ?_;intro w hS
 refine Aa7 hS ?_;intro w hS
 refine ⟨_,hS.cel mp0 rfl,_,_,_,hS.cel mp0 rfl,_,hS.cel mp0 rfl,?_⟩
 cases Aa0 h
 exact hK _ _ _ _ _ (fun _ hm a b=>(Ent.sl hm)) (hS.pick (A:=[_,_,_,_,_]) [1] rfl)
theorem Bd2 {qd qb qe qg l0_1 qf qt qs qo qp l1_1 qw u0 u1 u2} (hS:Ho w0 w L) (qr:EU L l0_1 qb qe qg) (qy:EU L l1_1 qs qo qp) (h:Ao8 qd l0_1 qf qt l1_1 qw=some (u0,u1,u2)) (hK:∀ (c:It) (d:OA) (e f:Nat) (g:World),(∀ L1,c∈L1→Ent L1 (rdA (List.map (AA .u64) l0_1) qb qe qg)→Ent L1 (rdA (List.map (AA .u64) l1_1) qs qo qp)→Ent L1 (rdA (List.map (AA .u64) u1) d e f))→Ho w0 g (c::L)→K (.agg #[.bool u0,.slice d e f,.int .i64 u2]) g):Aa1 P N.Ho5 #[.agg #[.bool qd,.slice qb qe qg,.int .i64 qf],.agg #[.bool qt,.slice qs qo qp,.int .i64 qw]] w K:=by
 refine H.r02_Plus qd qb qe qg qf qt qs qo qp qw w _ ?_
 unfold Cd7
 unfold Ao8 at h
 try dsimp only
 refine Ab2 hS ?_;intro r w hS
 refine Ab2 hS ?_;intro s w hS
 refine Ab2 hS ?_;intro t w hS
 refine ⟨_,hS.cel mp2 rfl,_,_,_,hS.cel mp2 rfl,_,hS.cel mp2 rfl,?_⟩
 obtain ⟨u,j,h⟩:=bnd h
 refine Am3 H hS (qr.mono tl3) j ?_;rintro w hS
 refine ⟨_,rfl,?_⟩
 refine Aa4 h ?_ ?_<;>intro hc h
 ·
  refine ⟨_,hS.cel mp1 rfl,_,_,_,hS.cel mp1 rfl,_,hS.cel mp1 rfl,?_⟩
  refine Aa8 hS rfl rfl ?_;intro w hS
  refine Aa8 hS rfl rfl ?_;intro w hS
  refine Aa8 hS rfl rfl ?_;intro w hS
  refine ⟨_,hS.cel mp0 rfl,_,_,_,hS.cel mp0 rfl,_,hS.cel mp0 rfl,?_⟩
  replace hS:=hS.voidItem
  cases Aa0 h
  exact hK _ _ _ _ _ (fun _ hm a b=>b) (hS.pick (A:=[_,_,_,_]) [0] rfl)
 refine ⟨_,hS.cel mp1 rfl,_,_,_,hS.cel mp1 rfl,_,hS.cel mp1 rfl,?_⟩
 obtain ⟨v,k,h⟩:=bnd h
 refine Am3 H hS (qy.mono tl3) k ?_;rintro w hS
 refine ⟨_,rfl,?_⟩
 refine Aa4 h ?_ ?_<;>intro hc h
 ·
  refine ⟨_,hS.cel mp2 rfl,_,_,_,hS.cel mp2 rfl,_,hS.cel mp2 rfl,?_⟩
  refine Aa8 hS rfl rfl ?_;intro w hS
  refine Aa8 hS rfl rfl ?_;intro w hS
  refine Aa8 hS rfl rfl ?_;intro w hS
  refine ⟨_,hS.cel mp0 rfl,_,_,_,hS.cel mp0 rfl,_,hS.cel mp0 rfl,?_⟩
  replace hS:=hS.voidItem
  cases Aa0 h
  exact hK _ _ _ _ _ (fun _ hm a b=>a) (hS.pick (A:=[_,_,_,_]) [0] rfl)
 refine ⟨_,hS.cel mp2 rfl,_,hS.cel mp1 rfl,?_⟩
 refine Aa4 h ?_ ?_<;>intro hc h
 ·
  refine ⟨_,hS.cel mp1 rfl,_,_,_,hS.cel mp1 rfl,_,hS.cel mp1 rfl,_,hS.cel mp2 rfl,_,_,_,hS.cel mp2 rfl,_,hS.cel mp2 rfl,?_⟩
  obtain ⟨⟨x,y,z⟩,i,h⟩:=bnd h
  refine Dw3 H hS (qy.mono tl3) (qr.mono tl3) i ?_;clear hS i;rintro aa a4 m4 c4 w l hS
  refine ⟨_,_,_,_,_,rfl,?_⟩
  replace hS:=ro1 hS
  refine Aa8 hS rfl rfl ?_;intro w hS
  refine Aa8 hS rfl rfl ?_;intro w hS
  refine Aa8 hS rfl rfl ?_;intro w hS
  refine ⟨_,hS.cel mp0 rfl,_,_,_,hS.cel mp0 rfl,_,hS.cel mp0 rfl,?_⟩
  cases Aa0 h
  exact hK _ _ _ _ _ (fun _ hm a b=>(l _ hm b a)) (hS.pick (A:=[_,_,_,_]) [1] rfl)
 refine ⟨_,_,_,hS.cel mp2 rfl,_,_,_,hS.cel mp1 rfl,_,hS.cel mp1 rfl,_,hS.cel mp2 rfl,?_⟩
 obtain ⟨t6,m,h⟩:=bnd h
 refine Cg9 H hS (qy.mono tl3) m ?_;rintro a5 m5 c5 w hS
 refine ⟨_,_,_,rfl,?_⟩
 refine ⟨_,hS.cel mp3 rfl,_,hS.cel mp2 rfl,?_⟩
 refine Aa4 h ?_ ?_<;>intro hc h
 ·
  refine ⟨_,hS.cel mp3 rfl,_,hS.cel mp3 rfl,?_⟩
  refine Aa7 hS ?_;intro w hS
  obtain ⟨t7,n,h⟩:=bnd h
  refine Bz3 H hS (qr.mono tl4) (Ent.sl mp0) n ?_;rintro a6 m6 c6 w hS
  refine ⟨_,_,_,rfl,?_⟩
  refine ⟨(hS.cel mp4 rfl),?_⟩
  refine ⟨(hS.cel mp4 rfl),?_⟩
  refine Aa7 hS ?_;intro w hS
  replace hS:=ro2 hS
  refine Aa8 hS rfl rfl ?_;intro w hS
  refine Aa8 hS rfl rfl ?_;intro w hS
  refine Aa8 hS rfl rfl ?_;intro w hS
  refine Aa7 hS ?_;intro w hS
  refine ⟨_,hS.cel mp0 rfl,_,_,_,hS.cel mp0 rfl,_,hS.cel mp0 rfl,?_⟩
  cases Aa0 h
  exact hK _ _ _ _ _ (fun _ hm a b=>(Ent.sl hm)) (hS.pick (A:=[_,_,_,_,_]) [1] rfl)
 obtain ⟨t8,o,h⟩:=bnd h
 refine By8 H hS (qr.mono tl4) (Ent.sl mp0) o ?_;rintro w hS
 refine ⟨_,rfl,?_⟩
 refine Aa4 h ?_ ?_<;>intro hc h
 ·
  refine ⟨_,hS.cel mp3 rfl,_,hS.cel mp3 rfl,?_⟩
  refine Aa7 hS ?_;intro w hS
  obtain ⟨t9,p,h⟩:=bnd h
  refine Bb4 H hS (qr.mono tl4) (Ent.sl mp0) p ?_;rintro a7 m7 c7 w hS
  refine ⟨_,_,_,rfl,?_⟩
  refine ⟨(hS.cel mp4 rfl),?_⟩
  refine ⟨(hS.cel mp4 rfl),?_⟩
  refine Aa7 hS ?_;intro w hS
  replace hS:=ro2 hS
  refine Aa8 hS rfl rfl ?_;intro w hS
  refine Aa8 hS rfl rfl ?_;intro w hS
  refine Aa8 hS rfl rfl ?_;intro w hS
  refine Aa7 hS ?_;intro w hS
  refine ⟨_,hS.cel mp0 rfl,_,_,_,hS.cel mp0 rfl,_,hS.cel mp0 rfl,?_⟩
  cases Aa0 h
  exact hK _ _ _ _ _ (fun _ hm a b=>(Ent.sl hm)) (hS.pick (A:=[_,_,_,_,_]) [1] rfl)
 refine ⟨_,hS.cel mp2 rfl,_,hS.cel mp3 rfl,?_⟩
 refine Aa7 hS ?_;intro w hS
 obtain ⟨ab,q,h⟩:=bnd h
 refine Bb4 H hS (Ent.sl mp0) (qr.mono tl4) q ?_;rintro a8 m8 c8 w hS
 refine ⟨_,_,_,rfl,?_⟩
 refine ⟨(hS.cel mp4 rfl),?_⟩
 refine ⟨(hS.cel mp3 rfl),?_⟩
 refine Aa7 hS ?_;intro w hS
 replace hS:=ro2 hS
 refine Aa8 hS rfl rfl ?_;intro w hS
 refine Aa8 hS rfl rfl ?_;intro w hS
 refine Aa8 hS rfl rfl ?_;intro w hS
 refine Aa7 hS ?_;intro w hS
 refine ⟨_,hS.cel mp0 rfl,_,_,_,hS.cel mp0 rfl,_,hS.cel mp0 rfl,?_⟩
 cases Aa0 h
 exact hK _ _ _ _ _ (fun _ hm a b=>(Ent.sl hm)) (hS.pick (A:=[_,_,_,_,_]) [1] rfl)
end Go.Eng
