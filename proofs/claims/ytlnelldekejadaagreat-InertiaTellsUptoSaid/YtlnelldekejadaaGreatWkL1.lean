/-
 Each function comes to what its function of plain Lean says, printed by a program of the session. No condition.
-/
import Derived.Test.YtlnelldekejadaaGreatTpL
import Derived.Test.YtlnelldekejadaaGreatWk
set_option linter.all false
set_option maxRecDepth 100000
set_option maxHeartbeats 4000000
open Go.Value renaming int→AA
namespace Go.Eng
open Go
variable {N:Nums} {P:Program} (H:AllOk N P) {w0 w:World} {L:List It} {K:Value→World→Prop}
include H
theorem Bn2 {b c d e f} {H0_2:List Hd} {a:List Dy} {u0 u1 u2 g} (hS:Ho w0 w L) (i:Ent L (rdA (dyC a H0_2) d (e*3) (f*3))) (j:AllD L a H0_2) (hx:Ag1 b c a=some (u0,u1,u2,g)) (hK:∀ h,Ho w0 h L→K (.tuple #[.agg #[.int .i64 u0,.int .i64 u1,.int .i64 u2],.int .i64 g]) h):Aa1 P N.Hh5 #[.agg #[.int .i64 b,.int .i64 c,.slice d e f]] w K:=by
 unfold Ag1 at hx
 exact Fk0 H hS i j hx hK
theorem Bo1 {b c d e f} {H0_2:List Hd} {a:List Dy} {u0:List Dy} {u1} (hS:Ho w0 w L) (l:Ent L (rdA (dyC a H0_2) d (e*3) (f*3))) (m:AllD L a H0_2) (hx:Af8 b c a=some (u0,u1)) (hK:∀ (a0:Option Addr) (g h:Nat) (i:List Hd) (j:It) (k:World),(∀ L1,j∈L1→AllD L1 u0 i)→Ho w0 k ((sl a0 (g*3) (h*3) (dyC u0 i) N.Hs7)::j::L)→K (.tuple #[.slice a0 g h,.int .i64 u1]) k):Aa1 P N.Hi2 #[.agg #[.int .i64 b,.int .i64 c,.slice d e f]] w K:=by
 unfold Af8 at hx
 exact Fr4 H hS l m hx hK
theorem Bm8 {b c d e f} {H0_2:List Hd} {a:List Dy} {g h i j l1_1 k u0 u1} (hS:Ho w0 w L) (m:Ent L (rdA (dyC a H0_2) d (e*3) (f*3))) (n:AllD L a H0_2) (o:EU L l1_1 h i j) (hx:Af0 b c a g l1_1 k=some (u0,u1)) (hK:∀ l,Ho w0 l L→K (.tuple #[.int .i64 u0,.int .i64 u1]) l):Aa1 P N.Hh7 #[.agg #[.int .i64 b,.int .i64 c,.slice d e f],.agg #[.bool g,.slice h i j,.int .i64 k]] w K:=by
 unfold Af0 at hx
 exact Fk9 H hS m n o hx hK
theorem Cf9  {u0} (hS:Ho w0 w L)  (h:Bv9  = some u0) (hK:∀ l,Ho w0 l L→K (.bool u0) l):Aa1 P N.Hn5 #[] w K:=by
 refine H.w16_awake  w _ ?_
 unfold Cw4
 unfold Bv9 at h
 try dsimp only
 replace hS:=hS.voidItem
 obtain ⟨v,z,h⟩:=bnd h
 obtain rfl:([1,2,2,1]:List Int)=v:=Aa0 z
 refine Ba4 (ks:=[1,2,2,1]) (enc:=(AA .i64)) (m:=4) hS rfl rfl ?_;intro r1 w hS
 obtain ⟨⟨t2,t3,t4⟩,n,h⟩:=bnd h
 refine Cc6 H hS (Ent.sl mp0) n ?_;clear hS n;rintro a2 m2 c2 ag e w a hS
 refine ⟨_,_,_,_,_,rfl,?_⟩
 replace a:=a [e] mp0
 replace hS:=ro3 hS
 replace hS:=ro2 hS
 replace hS:=hS.both
 replace a:=AllD.both (L:=[]) (y:=vd) (a.mono (Ad4 mp0))
 obtain ⟨⟨t5,t6,t7,t8⟩,o,h⟩:=bnd h
 refine Bn2 H hS (Ent.sl mp1) (a.mono (Ad4 mp0)) o ?_;clear hS o;rintro w hS
 refine ⟨_,_,_,_,rfl,?_⟩
 refine Ab2 hS ?_;intro r3 w hS
 refine Aa8 hS rfl rfl ?_;intro w hS
 refine Aa8 hS rfl rfl ?_;intro w hS
 refine Aa8 hS rfl rfl ?_;intro w hS
 obtain ⟨t9,aa,h⟩:=bnd h
 obtain rfl:([1,2,2,1]:List Int)=t9:=Aa0 aa
 refine Ba4 (ks:=[1,2,2,1]) (enc:=(AA .i64)) (m:=4) hS rfl rfl ?_;intro r4 w hS
 obtain ⟨⟨ah,ai,aj⟩,p,h⟩:=bnd h
 refine Cc6 H hS (Ent.sl mp0) p ?_;clear hS p;rintro a5 m5 c5 ak f w b hS
 refine ⟨_,_,_,_,_,rfl,?_⟩
 replace b:=b [f] mp0
 replace hS:=ro4 hS
 replace hS:=ro2 hS
 replace hS:=hS.both
 replace b:=AllD.both (L:=[]) (y:=(both e vd)) (b.mono (Ad4 mp0))
 replace a:=AllD.both (L:=[]) (x:=f) (a.mono (Ad4 mp1))
 obtain ⟨⟨al,am⟩,q,h⟩:=bnd h
 refine Bo1 H hS (Ent.sl mp1) (b.mono (Ad4 mp0)) q ?_;clear hS q;rintro a6 m6 c6 an g w c hS
 refine ⟨_,_,_,_,rfl,?_⟩
 replace c:=c [g] mp0
 replace hS:=ro2 hS
 replace hS:=ro2 hS
 replace hS:=hS.both
 replace c:=AllD.both (L:=[]) (y:=(both f (both e vd))) (c.mono (Ad4 mp0))
 replace b:=AllD.both (L:=[]) (x:=g) (b.mono (Ad4 mp1))
 replace a:=AllD.both (L:=[]) (x:=g) (a.mono (Ad4 mp1))
 obtain ⟨ab,ac,h⟩:=bnd h
 obtain rfl:([1,2,2,1]:List Int)=ab:=Aa0 ac
 refine Ba4 (ks:=[1,2,2,1]) (enc:=(AA .i64)) (m:=4) hS rfl rfl ?_;intro r7 w hS
 obtain ⟨⟨ao,ap,aq⟩,r,h⟩:=bnd h
 refine Cc6 H hS (Ent.sl mp0) r ?_;clear hS r;rintro a8 m8 c8 ar i w d hS
 refine ⟨_,_,_,_,_,rfl,?_⟩
 replace d:=d [i] mp0
 replace hS:=ro3 hS
 replace hS:=ro2 hS
 replace hS:=hS.both
 replace d:=AllD.both (L:=[]) (y:=(both g (both f (both e vd)))) (d.mono (Ad4 mp0))
 replace c:=AllD.both (L:=[]) (x:=i) (c.mono (Ad4 mp1))
 replace b:=AllD.both (L:=[]) (x:=i) (b.mono (Ad4 mp1))
 replace a:=AllD.both (L:=[]) (x:=i) (a.mono (Ad4 mp1))
 obtain ⟨⟨au,av,aw⟩,s,h⟩:=bnd h
 refine Di0 H hS  s ?_;clear hS s;rintro a9 m9 c9 w hS
 refine ⟨_,_,_,_,_,rfl,?_⟩
 obtain ⟨⟨ax,ay⟩,t,h⟩:=bnd h
 refine Bm8 H hS (Ent.sl mp2) (d.mono (Ad4 mp1)) (Ent.sl mp0) t ?_;clear hS t;rintro w hS
 refine ⟨_,_,rfl,?_⟩
 refine Aa4 h ?_ ?_<;>intro hc h
 ·
  refine Aa4 h ?_ ?_<;>intro hc h
  ·
   refine Aa4 h ?_ ?_<;>intro hc h
   ·
    refine Aa4 h ?_ ?_<;>intro hc h
    ·
     refine ⟨_,hS.cel mp7 rfl,_,hS.cel mp7 rfl,_,hS.cel mp7 rfl,?_⟩
     refine Aa4 h ?_ ?_<;>intro hc h
     ·
      obtain ⟨ad,ae,h⟩:=bnd h
      obtain rfl:([(-3),(-2),1]:List Int)=ad:=Aa0 ae
      refine Ba4 (ks:=[(-3),(-2),1]) (enc:=(AA .i64)) (m:=3) hS rfl rfl ?_;intro az w hS
      obtain ⟨⟨a0,a1,a3⟩,u,h⟩:=bnd h
      refine Cc6 H hS (Ent.sl mp0) u ?_;clear hS u;rintro a4 a7 ba bb j w k hS
      refine ⟨_,_,_,_,_,rfl,?_⟩
      replace k:=k [j] mp0
      replace hS:=ro4 hS
      replace hS:=ro2 hS
      replace hS:=hS.both
      replace k:=AllD.both (L:=[]) (y:=(both i (both g (both f (both e vd))))) (k.mono (Ad4 mp0))
      replace d:=AllD.both (L:=[]) (x:=j) (d.mono (Ad4 mp1))
      replace c:=AllD.both (L:=[]) (x:=j) (c.mono (Ad4 mp1))
      replace b:=AllD.both (L:=[]) (x:=j) (b.mono (Ad4 mp1))
      replace a:=AllD.both (L:=[]) (x:=j) (a.mono (Ad4 mp1))
      obtain ⟨bc,af,h⟩:=bnd h
      refine Bg6 H hS (Ent.sl mp6) (c.mono (Ad4 mp0)) (Ent.sl mp1) (k.mono (Ad4 mp0)) af ?_;rintro w hS
      refine ⟨_,rfl,?_⟩
      cases Aa0 h
      exact hK _ (hS.pick (A:=[_,_,_,_,_,_,_,_,_,_,_,_]) [] rfl)
     cases Aa0 h
     exact hK _ (hS.pick (A:=[_,_,_,_,_,_,_,_,_,_]) [] rfl)
    cases Aa0 h
    exact hK _ (hS.pick (A:=[_,_,_,_,_,_,_,_,_,_]) [] rfl)
   cases Aa0 h
   exact hK _ (hS.pick (A:=[_,_,_,_,_,_,_,_,_,_]) [] rfl)
  cases Aa0 h
  exact hK _ (hS.pick (A:=[_,_,_,_,_,_,_,_,_,_]) [] rfl)
 cases Aa0 h
 exact hK _ (hS.pick (A:=[_,_,_,_,_,_,_,_,_,_]) [] rfl)
end Go.Eng
