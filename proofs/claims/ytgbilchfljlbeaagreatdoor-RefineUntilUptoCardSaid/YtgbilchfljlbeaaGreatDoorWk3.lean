/-
 Each function comes to what its function of plain Lean says, printed by a program of the session. No condition.
-/
import Derived.Test.YtgbilchfljlbeaaGreatDoorWk2
set_option linter.all false
set_option maxRecDepth 100000
set_option maxHeartbeats 4000000
namespace Go.Eng
open Go
open Go.IntKind (i64 u64 u32 u8)
variable {N:Nums} {P:Program} (H:AllOk N P) {w0 w:World} {L:List It} {K:KV}
include H
theorem Df9 {qb qc qd u0 u1} (hS:Ho w0 w L)  (h:Aw0 qb qc qd=some (u0,u1)) (hK:∀ (z0:Nat) (w1:World),nf z0=u0→Ho w0 w1 L→K (.tuple #[.float .f64 z0,.bool u1]) w1):Aa1 P N.Ih5 #[.agg #[.bool qb,.int .u64 qc,.int .i64 qd]] w K:=by
 refine H.r01_Join qb qc qd w _ ?_
 unfold Dw7
 unfold Aw0 at h
 try dsimp only
 refine Aa9 hS ?_;intro r1 w hS
 obtain ⟨o2,h2,c2⟩:=bnd h
 refine Ab0 (fun s w=>∃ (t1:Bool),t1=o2∧s=(t1,())∧Ho w0 w ((cl r1 [.bool qb,.int .u64 qc,.int .i64 qd] N.Im2)::L)) (fun J2 hJ2=>?_) ?_
 ·
  have h:=h2
  clear h2
  refine ⟨_,hS.cel mp0 rfl,?_⟩
  refine Aa2 h ?_ ?_<;>intro hc h
  ·
   refine ⟨_,hS.cel mp0 rfl,?_⟩
   refine Aa2 h ?_ ?_<;>intro hc h
   ·
    refine ⟨_,hS.cel mp0 rfl,?_⟩
    refine Aa2 h ?_ ?_<;>intro hc h
    ·
     refine ⟨_,hS.cel mp0 rfl,_,hS.cel mp0 rfl,?_⟩
     refine ⟨by decide,?_⟩
     refine Aa2 h ?_ ?_<;>intro hc h
     ·
      refine ⟨_,hS.cel mp0 rfl,?_⟩
      refine Aa2 h ?_ ?_<;>intro hc h
      ·
       refine ⟨_,hS.cel mp0 rfl,?_⟩
       exact hJ2 _ _ ⟨_,Aa0 h,rfl,hS⟩
      exact hJ2 _ _ ⟨_,Aa0 h,rfl,hS⟩
     exact hJ2 _ _ ⟨_,Aa0 h,rfl,hS⟩
    exact hJ2 _ _ ⟨_,Aa0 h,rfl,hS⟩
   exact hJ2 _ _ ⟨_,Aa0 h,rfl,hS⟩
  exact hJ2 _ _ ⟨_,Aa0 h,rfl,hS⟩
 clear h2 hS
 rintro s w ⟨t1,rfl,rfl,hS⟩
 have h:=c2
 clear c2
 try dsimp only
 refine Aa2 h ?_ ?_<;>intro hc h
 ·
  cases Aa0 h
  exact hK _ _ rfl (hS.pick (A:=[_]) [] rfl)
 refine ⟨_,hS.cel mp0 rfl,_,hS.cel mp0 rfl,?_⟩
 refine Aa5 hS ?_;intro w hS
 obtain ⟨o3,h3,c3⟩:=bnd h
 refine Ab0 (fun s w=>∃ (t2:Int) (t3:Int),(t2,t3)=o3∧s=(t2,t3,())∧Ho w0 w ((cl r1 [.bool qb,.int .u64 qc,.int .i64 qd] N.Im2)::L)) (fun J3 hJ3=>?_) ?_
 ·
  have h:=h3
  clear h3
  refine Ab6 (fun s w t=>∃ (t4:Int) (t5:Int),(t4,t5)=t∧s=(t4,t5,())∧Ho w0 w ((cl r1 [.bool qb,.int .u64 qc,.int .i64 qd] N.Im2)::L)) ?_ h ⟨_,_,rfl,rfl,hS⟩
  clear h hS
  rintro s w t X q ⟨t4,t5,rfl,rfl,hS⟩ h hX hO
  unfold Ah5 at h
  try dsimp only
  refine Aa2 h ?_ ?_<;>intro hc h
  ·
   refine Aa2 h ?_ ?_<;>intro hc h
   ·
    refine Aa2 h ?_ ?_<;>intro hc h
    ·
     obtain rfl:=Aa0 h
     exact hX _ rfl _ _ ⟨_,_,rfl,rfl,hS⟩
    obtain rfl:=Aa0 h
    have h:=congrArg some (hO _ rfl)
    exact hJ3 _ _ ⟨_,_,Aa0 h,rfl,hS⟩
   obtain rfl:=Aa0 h
   have h:=congrArg some (hO _ rfl)
   exact hJ3 _ _ ⟨_,_,Aa0 h,rfl,hS⟩
  obtain rfl:=Aa0 h
  have h:=congrArg some (hO _ rfl)
  exact hJ3 _ _ ⟨_,_,Aa0 h,rfl,hS⟩
 clear h3 hS
 rintro s w ⟨t2,t3,rfl,rfl,hS⟩
 have h:=c3
 clear c3
 try dsimp only
 refine Aa2 h ?_ ?_<;>intro hc h
 ·
  cases Aa0 h
  exact hK _ _ rfl (hS.pick (A:=[_]) [] rfl)
 obtain ⟨o4,h4,c4⟩:=bnd h
 refine Ab0 (fun s w=>∃ (t6:Int),t6=o4∧s=(t6,())∧Ho w0 w ((cl r1 [.bool qb,.int .u64 qc,.int .i64 qd] N.Im2)::L)) (fun J4 hJ4=>?_) ?_
 ·
  have h:=h4
  clear h4
  refine Aa2 h ?_ ?_<;>intro hc h
  ·
   refine ⟨by decide,?_⟩
   exact hJ4 _ _ ⟨_,Aa0 h,rfl,hS⟩
  exact hJ4 _ _ ⟨_,Aa0 h,rfl,hS⟩
 clear h4 hS
 rintro s w ⟨t6,rfl,rfl,hS⟩
 have h:=c4
 clear c4
 try dsimp only
 refine ⟨_,hS.cel mp0 rfl,?_⟩
 obtain ⟨o5,h5,c5⟩:=bnd h
 refine Ab0 (fun s w=>∃ (t7:Int),t7=o5∧s=(t7,())∧Ho w0 w L) (fun J5 hJ5=>?_) ?_
 ·
  have h:=h5
  clear h5
  refine Aa2 h ?_ ?_<;>intro hc h
  ·
   obtain rfl:=Aa0 h
   exact hJ5 _ _ ⟨_,rfl,rfl,(hS.pick (A:=[_]) [] rfl)⟩
  obtain rfl:=Aa0 h
  exact hJ5 _ _ ⟨_,rfl,rfl,(hS.pick (A:=[_]) [] rfl)⟩
 clear h5 hS
 rintro s w ⟨t7,rfl,rfl,hS⟩
 have h:=c5
 clear c5
 try dsimp only
 obtain ⟨t8,ht8,h⟩:=bnd h
 refine Ac2 H hS  ht8 ?_;rintro z6 w rfl hS
 refine ⟨_,rfl,?_⟩
 cases Aa0 h
 exact hK _ _ rfl hS
theorem Fa1 {q0 q1 u0} (hS:Ho w0 w L)  (h:Bm2 q0 q1=some u0) (hK:∀ (z0:Nat) (w1:World),nf z0=u0→Ho w0 w1 L→K (.float .f64 z0) w1):Aa1 P N.If9 #[.int .i8 q0,.bool q1] w K:=by
 refine H.r02_huge q0 q1 w _ ?_
 unfold Dq8
 unfold Bm2 at h
 try dsimp only
 obtain ⟨⟨t1,t2⟩,ho1,h⟩:=bnd h
 refine Df9 H hS  ho1 ?_;clear hS ho1;rintro z1 w rfl hS
 refine ⟨_,_,rfl,?_⟩
 obtain ⟨o3,h3,c3⟩:=bnd h
 refine Ab0 (fun s w=>∃ (z2:Nat),(nf z2)=o3∧s=(z2,())∧Ho w0 w L) (fun J3 hJ3=>?_) ?_
 ·
  have h:=h3
  clear h3
  refine Aa2 h ?_ ?_<;>intro hc h
  ·
   exact hJ3 _ _ ⟨_,Aa0 h,rfl,hS⟩
  exact hJ3 _ _ ⟨_,Aa0 h,rfl,hS⟩
 clear h3 hS
 rintro s w ⟨z2,rfl,rfl,hS⟩
 have h:=c3
 clear c3
 try dsimp only
 refine Aa2 h ?_ ?_<;>intro hc h
 ·
  refine Aa2 h ?_ ?_<;>intro hc h
  ·
   refine Aa2 h ?_ ?_<;>intro hc h
   ·
    refine Aa2 h ?_ ?_<;>intro hc h
    ·
     refine Aa2 h ?_ ?_<;>intro hc h
     ·
      cases Aa0 h
      exact hK _ _ rfl hS
     obtain ⟨t4,ht4,h⟩:=bnd h
     refine Dq1 ht4 hS ?_;rintro z4 w rfl hS
     cases Aa0 h
     exact hK _ _ rfl hS
    obtain ⟨t5,ht5,h⟩:=bnd h
    refine Dq1 ht5 hS ?_;rintro z5 w rfl hS
    cases Aa0 h
    exact hK _ _ rfl hS
   cases Aa0 h
   exact hK _ _ rfl hS
  refine Aa2 h ?_ ?_<;>intro hc h
  ·
   refine Aa2 h ?_ ?_<;>intro hc h
   ·
    cases Aa0 h
    exact hK _ _ rfl hS
   obtain ⟨t6,ht6,h⟩:=bnd h
   refine Dq1 ht6 hS ?_;rintro z6 w rfl hS
   cases Aa0 h
   exact hK _ _ rfl hS
  obtain ⟨t7,ht7,h⟩:=bnd h
  refine Dq1 ht7 hS ?_;rintro z7 w rfl hS
  cases Aa0 h
  exact hK _ _ rfl hS
 cases Aa0 h
 exact hK _ _ rfl hS
theorem Eu0 {q0 q1 q2 u0} (hS:Ho w0 w L)  (h:Bh0 q0 q1 q2=some u0) (hK:∀ (z0:Nat) (w1:World),nf z0=u0→Ho w0 w1 L→K (.float .f64 z0) w1):Aa1 P N.If0 #[.bool q0,.int .u64 q1,.int .i64 q2] w K:=by
 refine H.r02_float q0 q1 q2 w _ ?_
 unfold Da9
 unfold Bh0 at h
 try dsimp only
 obtain ⟨o1,h1,c1⟩:=bnd h
 refine Ab0 (fun s w=>∃ (t1:Int),t1=o1∧s=(t1,())∧Ho w0 w L) (fun J1 hJ1=>?_) ?_
 ·
  have h:=h1
  clear h1
  refine Aa2 h ?_ ?_<;>intro hc h
  ·
   exact hJ1 _ _ ⟨_,Aa0 h,rfl,hS⟩
  exact hJ1 _ _ ⟨_,Aa0 h,rfl,hS⟩
 clear h1 hS
 rintro s w ⟨t1,rfl,rfl,hS⟩
 have h:=c1
 clear c1
 try dsimp only
 obtain ⟨o2,h2,c2⟩:=bnd h
 refine Ab0 (fun s w=>∃ (t2:Int) (t3:Int),(t2,t3)=o2∧s=(t2,t3,())∧Ho w0 w L) (fun J2 hJ2=>?_) ?_
 ·
  have h:=h2
  clear h2
  refine Ab6 (fun s w t=>∃ (t4:Int) (t5:Int),(t4,t5)=t∧s=(t4,t5,())∧Ho w0 w L) ?_ h ⟨_,_,rfl,rfl,hS⟩
  clear h hS
  rintro s w t X q ⟨t4,t5,rfl,rfl,hS⟩ h hX hO
  unfold Ai5 at h
  try dsimp only
  refine Aa2 h ?_ ?_<;>intro hc h
  ·
   refine ⟨by decide,?_⟩
   refine Aa2 h ?_ ?_<;>intro hc h
   ·
    refine ⟨by decide,?_⟩
    obtain rfl:=Aa0 h
    exact hX _ rfl _ _ ⟨_,_,rfl,rfl,hS⟩
   obtain rfl:=Aa0 h
   have h:=congrArg some (hO _ rfl)
   exact hJ2 _ _ ⟨_,_,Aa0 h,rfl,hS⟩
  obtain rfl:=Aa0 h
  have h:=congrArg some (hO _ rfl)
  exact hJ2 _ _ ⟨_,_,Aa0 h,rfl,hS⟩
 clear h2 hS
 rintro s w ⟨t2,t3,rfl,rfl,hS⟩
 have h:=c2
 clear c2
 try dsimp only
 obtain ⟨⟨t6,t7⟩,ho6,h⟩:=bnd h
 refine Df9 H hS  ho6 ?_;clear hS ho6;rintro z3 w rfl hS
 refine ⟨_,_,rfl,?_⟩
 cases Aa0 h
 exact hK _ _ rfl hS
theorem Dn9 {qb qc qe qg l0_1 qd q1 u0} (hS:Ho w0 w L) (qn:EU L l0_1 qc qe qg) (h:At4 qb l0_1 qd q1=some u0) (hK:∀ (z0:Nat) (w1:World),nf z0=u0→Ho w0 w1 L→K (.float .f64 z0) w1):Aa1 P N.Hx9 #[.agg #[.bool qb,.slice qc qe qg,.int .i64 qd],.int .i8 q1] w K:=by
 refine H.r02_Rounded qb qc qe qg qd q1 w _ ?_
 unfold Cf7
 unfold At4 at h
 try dsimp only
 refine Aa9 hS ?_;intro r1 w hS
 refine ⟨_,hS.cel mp0 rfl,_,_,_,hS.cel mp0 rfl,_,hS.cel mp0 rfl,?_⟩
 obtain ⟨t1,ht1,h⟩:=bnd h
 refine Ar3 H hS (qn.mono tl1) ht1 ?_;rintro w hS
 refine ⟨_,rfl,?_⟩
 refine Aa2 h ?_ ?_<;>intro hc h
 ·
  cases Aa0 h
  exact hK _ _ rfl (hS.pick (A:=[_]) [] rfl)
 refine ⟨_,hS.cel mp0 rfl,_,_,_,hS.cel mp0 rfl,_,hS.cel mp0 rfl,?_⟩
 obtain ⟨t2,ht2,h⟩:=bnd h
 refine Dn0 H hS (qn.mono tl1) ht2 ?_;rintro w hS
 refine ⟨_,rfl,?_⟩
 refine ⟨_,hS.cel mp0 rfl,?_⟩
 obtain ⟨o5,h5,c5⟩:=bnd h
 refine Ab0 (fun s w=>∃ (a2:OA) (m3:Nat) (c4:Nat) (t3:List Int),t3=o5∧s=((a2,m3,c4),())∧Ho w0 w ((cl r1 [.bool qb,.slice qc qe qg,.int .i64 qd] N.Ij1)::(sl a2 m3 c4 (List.map (Value.int .u64) t3) N.Il0)::L)) (fun J5 hJ5=>?_) ?_
 ·
  have h:=h5
  clear h5
  refine Aa2 h ?_ ?_<;>intro hc h
  ·
   refine ⟨_,_,_,hS.cel mp0 rfl,_,hS.cel mp0 rfl,?_⟩
   obtain ⟨t4,ht4,h⟩:=bnd h
   refine Bt1 H hS (qn.mono tl1) ht4 ?_;rintro a6 m6 c6 w hS
   refine ⟨_,_,_,rfl,?_⟩
   obtain rfl:=Aa0 h
   exact hJ5 _ _ ⟨_,_,_,_,rfl,rfl,(hS.pick (A:=[_,_]) [1,0] rfl)⟩
  refine ⟨_,hS.cel mp0 rfl,_,_,_,hS.cel mp0 rfl,?_⟩
  obtain ⟨⟨t5,t6⟩,ho5,h⟩:=bnd h
  refine Cc3 H hS (qn.mono tl1) ho5 ?_;clear hS ho5;rintro a7 m7 c7 w hS
  refine ⟨_,_,_,_,rfl,?_⟩
  obtain ⟨o11,h11,c11⟩:=bnd h
  refine Ab0 (fun s w=>∃ (a8:OA) (m9:Nat) (c10:Nat) (t7:List Int),t7=o11∧s=((a8,m9,c10),())∧Ho w0 w ((cl r1 [.bool qb,.slice qc qe qg,.int .i64 qd] N.Ij1)::(sl a8 m9 c10 (List.map (Value.int .u64) t7) N.Il0)::L)) (fun J11 hJ11=>?_) ?_
  ·
   have h:=h11
   clear h11
   refine Aa2 h ?_ ?_<;>intro hc h
   ·
    refine ⟨_,_,_,hS.cel mp1 rfl,?_⟩
    obtain ⟨⟨t8,t9⟩,ho8,h⟩:=bnd h
    refine Cc3 H hS (qn.mono tl2) ho8 ?_;clear hS ho8;rintro a12 m12 c12 w hS
    refine ⟨_,_,_,_,rfl,?_⟩
    obtain ⟨o13,h13,c13⟩:=bnd h
    refine Ab0 (fun s w=>∃ (t10:Bool),t10=o13∧s=(t10,())∧Ho w0 w ((sl a7 m7 c7 (List.map (Value.int .u64) t5) N.Il0)::(cl r1 [.bool qb,.slice qc qe qg,.int .i64 qd] N.Ij1)::L)) (fun J13 hJ13=>?_) ?_
    ·
     have h:=h13
     clear h13
     obtain ⟨t11,ht11,h⟩:=bnd h
     obtain rfl:=An6 ht11 ((Ent.sl mp0).now (fun _ h=>h) hS)
     refine Aa2 h ?_ ?_<;>intro hc h
     ·
      obtain ⟨t12,ht12,h⟩:=bnd h
      obtain ⟨q14x,yx,q14r⟩:=atE ht12
      refine Ac7 ((Ent.sl mp0).now (fun _ h=>h) hS) q14x yx q14r ?_;intro b15 hb15
      refine ⟨_,Ab4 ((Ent.sl mp0).now (fun _ h=>h) hS) hb15 q14x,?_⟩
      refine ⟨by decide,?_⟩
      obtain rfl:=Aa0 h
      exact hJ13 _ _ ⟨_,rfl,rfl,(hS.pick (A:=[_,_,_]) [1,1] rfl)⟩
     obtain rfl:=Aa0 h
     exact hJ13 _ _ ⟨_,rfl,rfl,(hS.pick (A:=[_,_,_]) [1,1] rfl)⟩
    clear h13 hS
    rintro s w ⟨t10,rfl,rfl,hS⟩
    have h:=c13
    clear c13
    try dsimp only
    obtain ⟨o16,h16,c16⟩:=bnd h
    refine Ab0 (fun s w=>∃ (t13:Int),t13=o16∧s=(t13,())∧Ho w0 w ((sl a7 m7 c7 (List.map (Value.int .u64) t5) N.Il0)::(cl r1 [.bool qb,.slice qc qe qg,.int .i64 qd] N.Ij1)::L)) (fun J16 hJ16=>?_) ?_
    ·
     have h:=h16
     clear h16
     refine Aa2 h ?_ ?_<;>intro hc h
     ·
      obtain ⟨o17,h17,c17⟩:=bnd h
      refine Ab0 (fun s w=>∃ (t14:Int),t14=o17∧s=(t14,())∧Ho w0 w ((sl a7 m7 c7 (List.map (Value.int .u64) t5) N.Il0)::(cl r1 [.bool qb,.slice qc qe qg,.int .i64 qd] N.Ij1)::L)) (fun J17 hJ17=>?_) ?_
      ·
       have h:=h17
       clear h17
       refine Aa2 h ?_ ?_<;>intro hc h
       ·
        exact hJ17 _ _ ⟨_,Aa0 h,rfl,hS⟩
       exact hJ17 _ _ ⟨_,Aa0 h,rfl,hS⟩
      clear h17 hS
      rintro s w ⟨t14,rfl,rfl,hS⟩
      have h:=c17
      clear c17
      try dsimp only
      exact hJ16 _ _ ⟨_,Aa0 h,rfl,hS⟩
     exact hJ16 _ _ ⟨_,Aa0 h,rfl,hS⟩
    clear h16 hS
    rintro s w ⟨t13,rfl,rfl,hS⟩
    have h:=c16
    clear c16
    try dsimp only
    refine ⟨_,hS.cel mp1 rfl,?_⟩
    obtain ⟨t15,ht15,h⟩:=bnd h
    obtain rfl:=An6 ht15 ((Ent.sl mp0).now (fun _ h=>h) hS)
    refine Aa2 h ?_ ?_<;>intro hc h
    ·
     obtain ⟨t16,ht16,h⟩:=bnd h
     obtain ⟨q18x,ga,q18r⟩:=atE ht16
     refine Ac7 ((Ent.sl mp0).now (fun _ h=>h) hS) q18x ga q18r ?_;intro b19 hb19
     refine ⟨_,Ab4 ((Ent.sl mp0).now (fun _ h=>h) hS) hb19 q18x,?_⟩
     refine ⟨by decide,?_⟩
     refine Aa5 hS ?_;intro w hS
     obtain ⟨t17,ht17,h⟩:=bnd h
     refine Eu7 H hS  ht17 ?_;rintro w hS
     refine ⟨_,rfl,?_⟩
     refine Aa5 hS ?_;intro w hS
     obtain ⟨o23,h23,c23⟩:=bnd h
     refine Ab0 (fun s w=>∃ (a20:OA) (m21:Nat) (c22:Nat) (t18:List Int),t18=o23∧s=((a20,m21,c22),())∧Ho w0 w ((cl r1 [.bool qb,.slice qc qe qg,.int .i64 qd] N.Ij1)::(sl a20 m21 c22 (List.map (Value.int .u64) t18) N.Il0)::L)) (fun J23 hJ23=>?_) ?_
     ·
      have h:=h23
      clear h23
      refine Aa2 h ?_ ?_<;>intro hc h
      ·
       obtain ⟨t19,ht19,h⟩:=bnd h
       refine Br8 H hS  ht19 ?_;rintro a24 m24 c24 w hS
       refine ⟨_,_,_,rfl,?_⟩
       obtain ⟨t20,ht20,h⟩:=bnd h
       refine Be0 H hS (Ent.sl mp1) (Ent.sl mp0) ht20 ?_;rintro a25 m25 c25 w hS
       refine ⟨_,_,_,rfl,?_⟩
       obtain rfl:=Aa0 h
       exact hJ23 _ _ ⟨_,_,_,_,rfl,rfl,(hS.pick (A:=[_,_,_,_]) [3,0] rfl)⟩
      obtain rfl:=Aa0 h
      exact hJ23 _ _ ⟨_,_,_,_,rfl,rfl,(hS.pick (A:=[_,_]) [1,0] rfl)⟩
     clear h23 hS
     rintro s w ⟨a20,m21,c22,t18,rfl,rfl,hS⟩
     have h:=c23
     clear c23
     try dsimp only
     exact hJ11 _ _ ⟨_,_,_,_,Aa0 h,rfl,hS⟩
    refine Aa5 hS ?_;intro w hS
    obtain ⟨t21,ht21,h⟩:=bnd h
    refine Eu7 H hS  ht21 ?_;rintro w hS
    refine ⟨_,rfl,?_⟩
    refine Aa5 hS ?_;intro w hS
    obtain ⟨o29,h29,c29⟩:=bnd h
    refine Ab0 (fun s w=>∃ (a26:OA) (m27:Nat) (c28:Nat) (t22:List Int),t22=o29∧s=((a26,m27,c28),())∧Ho w0 w ((cl r1 [.bool qb,.slice qc qe qg,.int .i64 qd] N.Ij1)::(sl a26 m27 c28 (List.map (Value.int .u64) t22) N.Il0)::L)) (fun J29 hJ29=>?_) ?_
    ·
     have h:=h29
     clear h29
     refine Aa2 h ?_ ?_<;>intro hc h
     ·
      obtain ⟨t23,ht23,h⟩:=bnd h
      refine Br8 H hS  ht23 ?_;rintro a30 m30 c30 w hS
      refine ⟨_,_,_,rfl,?_⟩
      obtain ⟨t24,ht24,h⟩:=bnd h
      refine Be0 H hS (Ent.sl mp1) (Ent.sl mp0) ht24 ?_;rintro a31 m31 c31 w hS
      refine ⟨_,_,_,rfl,?_⟩
      obtain rfl:=Aa0 h
      exact hJ29 _ _ ⟨_,_,_,_,rfl,rfl,(hS.pick (A:=[_,_,_,_]) [3,0] rfl)⟩
     obtain rfl:=Aa0 h
     exact hJ29 _ _ ⟨_,_,_,_,rfl,rfl,(hS.pick (A:=[_,_]) [1,0] rfl)⟩
    clear h29 hS
    rintro s w ⟨a26,m27,c28,t22,rfl,rfl,hS⟩
    have h:=c29
    clear c29
    try dsimp only
    exact hJ11 _ _ ⟨_,_,_,_,Aa0 h,rfl,hS⟩
   obtain rfl:=Aa0 h
   exact hJ11 _ _ ⟨_,_,_,_,rfl,rfl,(hS.pick (A:=[_,_]) [1,0] rfl)⟩
  clear h11 hS
  rintro s w ⟨a8,m9,c10,t7,rfl,rfl,hS⟩
  have h:=c11
  clear c11
  try dsimp only
  exact hJ5 _ _ ⟨_,_,_,_,Aa0 h,rfl,hS⟩
 clear h5 hS
 rintro s w ⟨a2,m3,c4,t3,rfl,rfl,hS⟩
 have h:=c5
 clear c5
 try dsimp only
 obtain ⟨t25,ht25,h⟩:=bnd h
 refine Bk3 H hS (Ent.sl mp1) ht25 ?_;rintro w hS
 refine ⟨_,rfl,?_⟩
 refine Aa2 h ?_ ?_<;>intro hc h
 ·
  refine ⟨_,hS.cel mp0 rfl,?_⟩
  obtain ⟨t26,ht26,h⟩:=bnd h
  refine Fa1 H hS  ht26 ?_;rintro z32 w rfl hS
  refine ⟨_,rfl,?_⟩
  cases Aa0 h
  exact hK _ _ rfl (hS.pick (A:=[_,_]) [] rfl)
 obtain ⟨t27,ht27,h⟩:=bnd h
 obtain rfl:=An6 ht27 ((Ent.sl mp1).now (fun _ h=>h) hS)
 obtain ⟨o33,h33,c33⟩:=bnd h
 refine Ab0 (fun s w=>∃ (t28:Int),t28=o33∧s=(t28,())∧Ho w0 w ((cl r1 [.bool qb,.slice qc qe qg,.int .i64 qd] N.Ij1)::L)) (fun J33 hJ33=>?_) ?_
 ·
  have h:=h33
  clear h33
  refine Aa2 h ?_ ?_<;>intro hc h
  ·
   obtain ⟨t29,ht29,h⟩:=bnd h
   obtain ⟨q34x,gc,q34r⟩:=atE ht29
   refine Ac7 ((Ent.sl mp1).now (fun _ h=>h) hS) q34x gc q34r ?_;intro b35 hb35
   refine ⟨_,Ab4 ((Ent.sl mp1).now (fun _ h=>h) hS) hb35 q34x,?_⟩
   obtain rfl:=Aa0 h
   exact hJ33 _ _ ⟨_,rfl,rfl,(hS.pick (A:=[_,_]) [0] rfl)⟩
  obtain rfl:=Aa0 h
  exact hJ33 _ _ ⟨_,rfl,rfl,(hS.pick (A:=[_,_]) [0] rfl)⟩
 clear h33 hS
 rintro s w ⟨t28,rfl,rfl,hS⟩
 have h:=c33
 clear c33
 try dsimp only
 refine ⟨_,hS.cel mp0 rfl,?_⟩
 obtain ⟨t30,ht30,h⟩:=bnd h
 refine Eu0 H hS  ht30 ?_;rintro z36 w rfl hS
 refine ⟨_,rfl,?_⟩
 cases Aa0 h
 exact hK _ _ rfl (hS.pick (A:=[_]) [] rfl)
theorem Cd0 {qb qc qd qa qf qr q1 qo qu vk q2 qy vf vx u0 u1} (hS:Ho w0 w L) (qp:EF L qr qd qa qf) (ve:EF L vk q1 qo qu) (vw:EF L vx q2 qy vf) (h:Az9 qb qc (List.map nf qr) (List.map nf vk) (List.map nf vx)=some (u0,u1)) (hK:∀ (a0:OA) (n0 c0:Nat) (rws0:List Nat) (w1:World),List.map nf rws0=u0→Ho w0 w1 ((sl a0 n0 c0 (List.map (Value.float .f64) rws0) N.Ii0)::L)→K (.tuple #[.slice a0 n0 c0,.int .i64 u1]) w1):Aa1 P N.Ig1 #[.agg #[.int .i64 qb,.int .i64 qc,.slice qd qa qf],.slice q1 qo qu,.slice q2 qy vf] w K:=by
 refine H.r14_Left qb qc qd qa qf q1 qo qu q2 qy vf w _ ?_
 unfold Du6
 unfold Az9 at h
 try dsimp only
 refine Aa9 hS ?_;intro r1 w hS
 refine ⟨_,hS.cel mp0 rfl,_,hS.cel mp0 rfl,_,_,_,hS.cel mp0 rfl,?_⟩
 obtain ⟨t1,ht1,h⟩:=bnd h
 refine Dv6 H hS (qp.mono tl1) (ve.mono tl1) (vw.mono tl1) ht1 ?_;rintro w hS
 refine ⟨_,rfl,?_⟩
 refine Aa2 h ?_ ?_<;>intro hc h
 ·
  replace hS:=hS.none (α:=Nat) (enc:=(Value.float .f64)) (t:=N.Ii0)
  cases Aa0 h
  exact hK _ _ _ _ _ rfl (hS.pick (A:=[_,_]) [0] rfl)
 obtain ⟨o2,h2,c2⟩:=bnd h
 refine Ab0 (fun s w=>∃ (t2:Bool),t2=o2∧s=(t2,())∧Ho w0 w ((cl r1 [.int .i64 qb,.int .i64 qc,.slice qd qa qf] N.Ik5)::L)) (fun J2 hJ2=>?_) ?_
 ·
  have h:=h2
  clear h2
  refine ⟨_,_,_,hS.cel mp0 rfl,?_⟩
  obtain ⟨t3,ht3,h⟩:=bnd h
  refine Al9 H hS (qp.mono tl1) ht3 ?_;rintro w hS
  refine ⟨_,rfl,?_⟩
  refine Aa2 h ?_ ?_<;>intro hc h
  ·
   obtain ⟨t4,ht4,h⟩:=bnd h
   refine Al9 H hS (ve.mono tl1) ht4 ?_;rintro w hS
   refine ⟨_,rfl,?_⟩
   refine Aa2 h ?_ ?_<;>intro hc h
   ·
    obtain ⟨t5,ht5,h⟩:=bnd h
    refine Al9 H hS (vw.mono tl1) ht5 ?_;rintro w hS
    refine ⟨_,rfl,?_⟩
    exact hJ2 _ _ ⟨_,Aa0 h,rfl,hS⟩
   exact hJ2 _ _ ⟨_,Aa0 h,rfl,hS⟩
  exact hJ2 _ _ ⟨_,Aa0 h,rfl,hS⟩
 clear h2 hS
 rintro s w ⟨t2,rfl,rfl,hS⟩
 have h:=c2
 clear c2
 try dsimp only
 refine Aa2 h ?_ ?_<;>intro hc h
 ·
  replace hS:=hS.none (α:=Nat) (enc:=(Value.float .f64)) (t:=N.Ii0)
  cases Aa0 h
  exact hK _ _ _ _ _ rfl (hS.pick (A:=[_,_]) [0] rfl)
 obtain ⟨o7,h7,c7⟩:=bnd h
 refine Ab0 (fun s w=>∃ (a3:OA) (m4:Nat) (c5:Nat) (yi:List Nat),(List.map nf yi)=o7∧s=((a3,m4,c5),())∧Ho w0 w ((sl a3 m4 c5 (List.map (Value.float .f64) yi) N.Ii0)::L)) (fun J7 hJ7=>?_) ?_
 ·
  have h:=h7
  clear h7
  replace hS:=hS.none (α:=Nat) (enc:=(Value.float .f64)) (t:=N.Ii0)
  refine Ab6 (fun s w t=>∃ (t7:Int) (a8:OA) (m9:Nat) (c10:Nat) (je:List Nat),(t7,(List.map nf je))=t∧s=((a8,m9,c10),t7,())∧Ho w0 w ((cl r1 [.int .i64 qb,.int .i64 qc,.slice qd qa qf] N.Ik5)::(sl a8 m9 c10 (List.map (Value.float .f64) je) N.Ii0)::L)) ?_ h ⟨_,_,_,_,_,rfl,rfl,(hS.pick (A:=[_,_]) [1,0] rfl)⟩
  clear h hS
  rintro s w t X q ⟨t7,a8,m9,c10,je,rfl,rfl,hS⟩ h hX hO
  unfold As9 at h
  try dsimp only
  refine ⟨_,hS.cel mp0 rfl,?_⟩
  refine Aa2 h ?_ ?_<;>intro hc h
  ·
   obtain ⟨t9,ht9,h⟩:=bnd h
   obtain ⟨z12,rfl,q13x,yw,q13r⟩:=atF ht9
   refine Ac7 ((vw.mono tl2).now (fun _ h=>h) hS) q13x yw q13r ?_;intro b14 hb14
   refine ⟨_,Ab4 ((vw.mono tl2).now (fun _ h=>h) hS) hb14 q13x,?_⟩
   obtain ⟨⟨t10,t11,t12⟩,ho10,h⟩:=bnd h
   refine Av9 H hS  ho10 ?_;clear hS ho10;rintro a15 m15 c15 w hS
   refine ⟨_,_,_,_,_,rfl,?_⟩
   refine Aa9 hS ?_;intro r16 w hS
   refine Aa4 hS rfl rfl ?_;intro w hS
   refine Aa4 hS rfl rfl ?_;intro w hS
   refine Aa4 hS rfl rfl ?_;intro w hS
   obtain ⟨o22,h22,c22⟩:=bnd h
   refine Ab0 (fun s w=>∃ (t13:Bool) (t14:Int) (a17:OA) (m18:Nat) (c19:Nat) (t15:List Int) (it20:It),(t13,t14,t15)=o22∧s=(())∧Ent (it20::L) (rdA (List.map (Value.int .u64) t15) a17 m18 c19)∧Ho w0 w ((cl r16 [.bool t13,.slice a17 m18 c19,.int .i64 t14] N.Ij1)::(cl r1 [.int .i64 qb,.int .i64 qc,.slice qd qa qf] N.Ik5)::(sl a8 m9 c10 (List.map (Value.float .f64) je) N.Ii0)::it20::L)) (fun J22 hJ22=>?_) ?_
   ·
    have h:=h22
    clear h22
    refine Ab6 (fun s w t=>∃ (t16:Int) (t17:Bool) (t18:Int) (a23:OA) (m24:Nat) (c25:Nat) (t19:List Int) (it26:It),(t16,t17,t18,t19)=t∧s=(t16,())∧Ent (it26::L) (rdA (List.map (Value.int .u64) t19) a23 m24 c25)∧Ho w0 w ((cl r16 [.bool t17,.slice a23 m24 c25,.int .i64 t18] N.Ij1)::(cl r1 [.int .i64 qb,.int .i64 qc,.slice qd qa qf] N.Ik5)::(sl a8 m9 c10 (List.map (Value.float .f64) je) N.Ii0)::it26::L)) ?_ h ⟨_,_,_,_,_,_,_,_,rfl,rfl,(Ent.sl mp0),(hS.pick (A:=[_,_,_,_]) [0,1,1,0] rfl)⟩
    clear h hS
    rintro s w t X q ⟨t16,t17,t18,a23,m24,c25,t19,it26,rfl,rfl,e27,hS⟩ h hX hO
    unfold Ay1 at h
    try dsimp only
    refine ⟨_,hS.cel mp1 rfl,?_⟩
    refine Aa2 h ?_ ?_<;>intro hc h
    ·
     obtain ⟨o32,h32,c32⟩:=bnd h
     refine Ab0 (fun s w=>∃ (r28:Nat) (t20:Bool) (t21:Int) (a29:OA) (m30:Nat) (c31:Nat) (t22:List Int),(t20,t21,t22)=o32∧s=((some ⟨r28,0,none⟩),())∧Ho w0 w ((cl r28 [.bool t20,.slice a29 m30 c31,.int .i64 t21] N.Ij1)::(sl a29 m30 c31 (List.map (Value.int .u64) t22) N.Il0)::(cl r16 [.bool t17,.slice a23 m24 c25,.int .i64 t18] N.Ij1)::(cl r1 [.int .i64 qb,.int .i64 qc,.slice qd qa qf] N.Ik5)::(sl a8 m9 c10 (List.map (Value.float .f64) je) N.Ii0)::it26::L)) (fun J32 hJ32=>?_) ?_
     ·
      have h:=h32
      clear h32
      refine ⟨_,_,_,hS.cel mp1 rfl,_,hS.cel mp1 rfl,?_⟩
      obtain ⟨t23,ht23,h⟩:=bnd h
      obtain ⟨z33,rfl,q34x,gc,q34r⟩:=atF ht23
      refine Ac7 ((qp.mono tl4).now (fun _ h=>h) hS) q34x gc q34r ?_;intro b35 hb35
      refine ⟨_,Ab4 ((qp.mono tl4).now (fun _ h=>h) hS) hb35 q34x,?_⟩
      obtain ⟨t24,ht24,h⟩:=bnd h
      obtain ⟨z36,rfl,q37x,zh,q37r⟩:=atF ht24
      refine Ac7 ((ve.mono tl4).now (fun _ h=>h) hS) q37x zh q37r ?_;intro b38 hb38
      refine ⟨_,Ab4 ((ve.mono tl4).now (fun _ h=>h) hS) hb38 q37x,?_⟩
      refine ⟨?_,?_⟩
      ·
       refine Aa5 hS ?_;intro w hS
       obtain ⟨⟨t25,t26,t27⟩,ho25,h⟩:=bnd h
       refine Av9 H hS  ho25 ?_;clear hS ho25;rintro a39 m39 c39 w hS
       refine ⟨_,_,_,_,_,rfl,?_⟩
       refine ⟨Ab4 ((ve.mono tl5).now (fun _ h=>h) hS) hb38 q37x,?_⟩
       refine ⟨?_,?_⟩
       ·
        refine Aa5 hS ?_;intro w hS
        obtain ⟨⟨t28,t29,t30⟩,ho28,h⟩:=bnd h
        refine Av9 H hS  ho28 ?_;clear hS ho28;rintro a40 m40 c40 w hS
        refine ⟨_,_,_,_,_,rfl,?_⟩
        refine ⟨?_,?_⟩
        ·
         refine Aa5 hS ?_;intro w hS
         obtain ⟨⟨t31,t32,t33⟩,ho31,h⟩:=bnd h
         refine Bi3 H hS (Ent.sl mp1) (Ent.sl mp0) ho31 ?_;clear hS ho31;rintro a41 m41 c41 w hS
         refine ⟨_,_,_,_,_,rfl,?_⟩
         refine Aa5 hS ?_;intro w hS
         refine Aa9 hS ?_;intro r42 w hS
         refine Aa5 hS ?_;intro w hS
         refine Aa4 hS rfl rfl ?_;intro w hS
         refine Aa4 hS rfl rfl ?_;intro w hS
         refine Aa4 hS rfl rfl ?_;intro w hS
         refine Aa5 hS ?_;intro w hS
         obtain rfl:=Aa0 h
         exact hJ32 _ _ ⟨_,_,_,_,_,_,_,rfl,rfl,(hS.pick (A:=[_,_,_,_,_,_,_,_]) [0,0,2,2,2,2] rfl)⟩
        refine Aa5 hS ?_;intro w hS
        refine Aa9 hS ?_;intro r43 w hS
        refine Aa5 hS ?_;intro w hS
        obtain ⟨⟨t31,t32,t33⟩,ho31,h⟩:=bnd h
        refine Bi3 H hS (Ent.sl mp2) (Ent.sl mp1) ho31 ?_;clear hS ho31;rintro a44 m44 c44 w hS
        refine ⟨_,_,_,_,_,rfl,?_⟩
        refine Aa5 hS ?_;intro w hS
        replace hS:=ro1 hS
        refine Aa4 hS rfl rfl ?_;intro w hS
        refine Aa4 hS rfl rfl ?_;intro w hS
        refine Aa4 hS rfl rfl ?_;intro w hS
        refine Aa5 hS ?_;intro w hS
        obtain rfl:=Aa0 h
        exact hJ32 _ _ ⟨_,_,_,_,_,_,_,rfl,rfl,(hS.pick (A:=[_,_,_,_,_,_,_,_]) [0,0,2,2,2,2] rfl)⟩
       refine Aa5 hS ?_;intro w hS
       refine Aa9 hS ?_;intro r45 w hS
       refine ⟨Ab4 ((ve.mono tl6).now (fun _ h=>h) hS) hb38 q37x,?_⟩
       refine Aa5 hS ?_;intro w hS
       obtain ⟨⟨t28,t29,t30⟩,ho28,h⟩:=bnd h
       refine Av9 H hS  ho28 ?_;clear hS ho28;rintro a46 m46 c46 w hS
       refine ⟨_,_,_,_,_,rfl,?_⟩
       refine Aa5 hS ?_;intro w hS
       obtain ⟨⟨t31,t32,t33⟩,ho31,h⟩:=bnd h
       refine Bi3 H hS (Ent.sl mp2) (Ent.sl mp0) ho31 ?_;clear hS ho31;rintro a47 m47 c47 w hS
       refine ⟨_,_,_,_,_,rfl,?_⟩
       refine Aa5 hS ?_;intro w hS
       replace hS:=ro2 hS
       refine Aa4 hS rfl rfl ?_;intro w hS
       refine Aa4 hS rfl rfl ?_;intro w hS
       refine Aa4 hS rfl rfl ?_;intro w hS
       refine Aa5 hS ?_;intro w hS
       obtain rfl:=Aa0 h
       exact hJ32 _ _ ⟨_,_,_,_,_,_,_,rfl,rfl,(hS.pick (A:=[_,_,_,_,_,_,_,_]) [0,0,2,2,2,2] rfl)⟩
      refine Aa5 hS ?_;intro w hS
      refine Aa9 hS ?_;intro r48 w hS
      refine ⟨Ab4 ((ve.mono tl5).now (fun _ h=>h) hS) hb38 q37x,?_⟩
      refine ⟨Ab4 ((qp.mono tl5).now (fun _ h=>h) hS) hb35 q34x,?_⟩
      refine ⟨(hS.cel mp2 rfl),?_⟩
      refine ⟨(hS.cel mp2 rfl),?_⟩
      refine Aa5 hS ?_;intro w hS
      obtain ⟨⟨t25,t26,t27⟩,ho25,h⟩:=bnd h
      refine Av9 H hS  ho25 ?_;clear hS ho25;rintro a49 m49 c49 w hS
      refine ⟨_,_,_,_,_,rfl,?_⟩
      refine ⟨Ab4 ((ve.mono tl6).now (fun _ h=>h) hS) hb38 q37x,?_⟩
      refine Aa5 hS ?_;intro w hS
      obtain ⟨⟨t28,t29,t30⟩,ho28,h⟩:=bnd h
      refine Av9 H hS  ho28 ?_;clear hS ho28;rintro a50 m50 c50 w hS
      refine ⟨_,_,_,_,_,rfl,?_⟩
      refine Aa5 hS ?_;intro w hS
      obtain ⟨⟨t31,t32,t33⟩,ho31,h⟩:=bnd h
      refine Bi3 H hS (Ent.sl mp1) (Ent.sl mp0) ho31 ?_;clear hS ho31;rintro a51 m51 c51 w hS
      refine ⟨_,_,_,_,_,rfl,?_⟩
      refine Aa5 hS ?_;intro w hS
      replace hS:=ro3 hS
      refine Aa4 hS rfl rfl ?_;intro w hS
      refine Aa4 hS rfl rfl ?_;intro w hS
      refine Aa4 hS rfl rfl ?_;intro w hS
      refine Aa5 hS ?_;intro w hS
      obtain rfl:=Aa0 h
      exact hJ32 _ _ ⟨_,_,_,_,_,_,_,rfl,rfl,(hS.pick (A:=[_,_,_,_,_,_,_,_]) [0,0,2,2,2,2] rfl)⟩
     clear h32 hS
     rintro s w ⟨r28,t20,t21,a29,m30,c31,t22,rfl,rfl,hS⟩
     have h:=c32
     clear c32
     try dsimp only
     refine ⟨_,hS.cel mp2 rfl,_,_,_,hS.cel mp2 rfl,_,hS.cel mp2 rfl,?_⟩
     refine Ad6 ?_
     refine ⟨_,hS.cel mp0 rfl,_,_,_,hS.cel mp0 rfl,_,hS.cel mp0 rfl,?_⟩
     refine Aa5 hS ?_;intro w hS
     obtain ⟨⟨t34,t35,t36⟩,ho34,h⟩:=bnd h
     refine Ei9 H hS (Ent.sl mp1) ho34 ?_;clear hS ho34;rintro w rfl hS
     refine ⟨_,_,_,_,_,rfl,?_⟩
     refine ⟨(hS.cel mp2 rfl),?_⟩
     refine ⟨(hS.cel mp2 rfl),?_⟩
     refine ⟨(hS.cel mp2 rfl),?_⟩
     refine Aa5 hS ?_;intro w hS
     obtain ⟨⟨t37,t38,t39⟩,ho37,h⟩:=bnd h
     refine Fa0 H hS (e27.mono (Aq5 mp5 tl6)) (Ent.sl mp1) ho37 ?_;clear hS ho37;rintro it53 a53 m53 c53 w e53 hS
     refine ⟨_,_,_,_,_,rfl,?_⟩
     refine Aa5 hS ?_;intro w hS
     replace hS:=ro3 hS
     refine Aa4 hS rfl rfl ?_;intro w hS
     refine Aa4 hS rfl rfl ?_;intro w hS
     refine Aa4 hS rfl rfl ?_;intro w hS
     refine Aa5 hS ?_;intro w hS
     replace hS:=ro3 hS
     replace hS:=ro6 hS
     replace hS:=ro3 hS
     replace hS:=hS.both
     replace hS:=hS.both
     obtain rfl:=Aa0 h
     exact hX _ rfl _ _ ⟨_,_,_,_,_,_,_,_,rfl,rfl,(e53 _ mp0 (e27.mono (Aq5 mp1 tl3)) (Ent.sl mp2)).both.both,(hS.pick (A:=[_,_,_,_,_]) [1,2,2,0] rfl)⟩
    obtain rfl:=Aa0 h
    have h:=congrArg some (hO _ rfl)
    obtain rfl:=Aa0 h
    exact hJ22 _ _ ⟨_,_,_,_,_,_,_,rfl,rfl,e27,hS⟩
   clear h22 hS
   rintro s w ⟨t13,t14,a17,m18,c19,t15,it20,rfl,rfl,e21,hS⟩
   have h:=c22
   clear c22
   try dsimp only
   refine ⟨_,hS.cel mp0 rfl,_,_,_,hS.cel mp0 rfl,_,hS.cel mp0 rfl,?_⟩
   obtain ⟨t40,ht40,h⟩:=bnd h
   refine Dn9 H hS (e21.mono (Aq5 mp3 tl4)) ht40 ?_;rintro z54 w rfl hS
   refine ⟨_,rfl,?_⟩
   obtain ⟨t41,ht41,h⟩:=bnd h
   obtain rfl:(List.map nf ([z54]:List Nat))=t41:=Aa0 ht41
   refine Ap0 (ks:=[z54]) (enc:=(Value.float .f64)) (m:=1) hS rfl rfl ?_;intro r55 w hS
   obtain ⟨t42,ht42,h⟩:=bnd h
   obtain ⟨rfl,kt42⟩:=Hi5 ht42
   replace hS:=ro3 hS
   refine Bx6 hS kt42 ((Ent.sl mp1).now (fun _ h=>h) hS) (fun _=>rfl) rfl ?_;clear hS kt42;intro a56 c56 w hS
   obtain rfl:=Aa0 h
   exact hX _ rfl _ _ ⟨_,_,_,_,_,rfl,rfl,(hS.pick (A:=[_,_,_,_,_]) [3,0] rfl)⟩
  obtain rfl:=Aa0 h
  have h:=congrArg some (hO _ rfl)
  obtain rfl:=Aa0 h
  exact hJ7 _ _ ⟨_,_,_,_,rfl,rfl,(hS.pick (A:=[_,_]) [1] rfl)⟩
 clear h7 hS
 rintro s w ⟨a3,m4,c5,yi,rfl,rfl,hS⟩
 have h:=c7
 clear c7
 try dsimp only
 obtain ⟨t43,ht43,h⟩:=bnd h
 refine Al9 H hS (Ent.sl mp0) ht43 ?_;rintro w hS
 refine ⟨_,rfl,?_⟩
 refine Aa2 h ?_ ?_<;>intro hc h
 ·
  replace hS:=hS.none (α:=Nat) (enc:=(Value.float .f64)) (t:=N.Ii0)
  cases Aa0 h
  exact hK _ _ _ _ _ rfl (hS.pick (A:=[_,_]) [0] rfl)
 cases Aa0 h
 exact hK _ _ _ _ _ rfl hS
theorem Bp0 {q0 u0} (hS:Ho w0 w L)  (h:Ar9 (nf q0)=some u0) (hK:∀ w1,Ho w0 w1 L→K (.bool u0) w1):Aa1 P N.Ia6 #[.float .f64 q0] w K:=by
 refine H.r03_Finite q0 w _ ?_
 unfold Cv0
 unfold Ar9 at h
 try dsimp only
 obtain ⟨t1,ht1,h⟩:=bnd h
 refine Bs5 ht1 hS ?_;rintro z1 w rfl hS
 obtain ⟨t2,ht2,h⟩:=bnd h
 obtain rfl:=Bx5 ht2
 cases Aa0 h
 exact hK _ hS
theorem Es6 {q0 q1 u0} (hS:Ho w0 w L)  (h:Bg0 (nf q0) q1=some u0) (hK:∀ (z0:Nat) (w1:World),nf z0=u0→Ho w0 w1 L→K (.float .f64 z0) w1):Aa1 P N.If3 #[.float .f64 q0,.int .i8 q1] w K:=by
 refine H.r03_great q0 q1 w _ ?_
 unfold Dd7
 unfold Bg0 at h
 try dsimp only
 refine Aa2 h ?_ ?_<;>intro hc h
 ·
  obtain ⟨t1,ht1,h⟩:=bnd h
  obtain rfl:=Ea8 ht1
  refine Aa2 h ?_ ?_<;>intro hc h
  ·
   refine Aa2 h ?_ ?_<;>intro hc h
   ·
    obtain ⟨t2,ht2,h⟩:=bnd h
    obtain rfl:=Cm8 ht2
    refine Aa2 h ?_ ?_<;>intro hc h
    ·
     refine Aa2 h ?_ ?_<;>intro hc h
     ·
      obtain ⟨t3,ht3,h⟩:=bnd h
      refine Ad2 H hS  ht3 ?_;rintro z1 w rfl hS
      refine ⟨_,rfl,?_⟩
      cases Aa0 h
      exact hK _ _ rfl hS
     cases Aa0 h
     exact hK _ _ rfl hS
    cases Aa0 h
    exact hK _ _ rfl hS
   obtain ⟨t4,ht4,h⟩:=bnd h
   refine Ad2 H hS  ht4 ?_;rintro z2 w rfl hS
   refine ⟨_,rfl,?_⟩
   cases Aa0 h
   exact hK _ _ rfl hS
  obtain ⟨t5,ht5,h⟩:=bnd h
  obtain rfl:=Cm8 ht5
  refine Aa2 h ?_ ?_<;>intro hc h
  ·
   refine Aa2 h ?_ ?_<;>intro hc h
   ·
    obtain ⟨t6,ht6,h⟩:=bnd h
    refine Ad2 H hS  ht6 ?_;rintro z3 w rfl hS
    refine ⟨_,rfl,?_⟩
    cases Aa0 h
    exact hK _ _ rfl hS
   cases Aa0 h
   exact hK _ _ rfl hS
  cases Aa0 h
  exact hK _ _ rfl hS
 obtain ⟨t7,ht7,h⟩:=bnd h
 refine Ad2 H hS  ht7 ?_;rintro z4 w rfl hS
 refine ⟨_,rfl,?_⟩
 cases Aa0 h
 exact hK _ _ rfl hS
theorem Dy6 {q0 q1 q2 q3 u0} (hS:Ho w0 w L)  (h:Bb9 q0 q1 (nf q2) q3=some u0) (hK:∀ (z0:Nat) (w1:World),nf z0=u0→Ho w0 w1 L→K (.float .f64 z0) w1):Aa1 P N.Ib1 #[.bool q0,.bool q1,.float .f64 q2,.int .i8 q3] w K:=by
 refine H.r03_nought q0 q1 q2 q3 w _ ?_
 unfold Cp7
 unfold Bb9 at h
 try dsimp only
 refine Aa2 h ?_ ?_<;>intro hc h
 ·
  obtain ⟨t1,ht1,h⟩:=bnd h
  obtain rfl:=Bx5 ht1
  refine Aa2 h ?_ ?_<;>intro hc h
  ·
   obtain ⟨t2,ht2,h⟩:=bnd h
   refine Af6 H hS  ht2 ?_;rintro w hS
   refine ⟨_,rfl,?_⟩
   refine Aa2 h ?_ ?_<;>intro hc h
   ·
    cases Aa0 h
    exact hK _ _ rfl hS
   refine Aa2 h ?_ ?_<;>intro hc h
   ·
    obtain ⟨t3,ht3,h⟩:=bnd h
    refine Ad2 H hS  ht3 ?_;rintro z1 w rfl hS
    refine ⟨_,rfl,?_⟩
    cases Aa0 h
    exact hK _ _ rfl hS
   cases Aa0 h
   exact hK _ _ rfl hS
  refine Aa2 h ?_ ?_<;>intro hc h
  ·
   obtain ⟨t4,ht4,h⟩:=bnd h
   refine Ad2 H hS  ht4 ?_;rintro z2 w rfl hS
   refine ⟨_,rfl,?_⟩
   cases Aa0 h
   exact hK _ _ rfl hS
  cases Aa0 h
  exact hK _ _ rfl hS
 refine Aa2 h ?_ ?_<;>intro hc h
 ·
  obtain ⟨t5,ht5,h⟩:=bnd h
  refine Ad2 H hS  ht5 ?_;rintro z3 w rfl hS
  refine ⟨_,rfl,?_⟩
  cases Aa0 h
  exact hK _ _ rfl hS
 cases Aa0 h
 exact hK _ _ rfl hS
theorem Ex6 {q0 u0} (hS:Ho w0 w L)  (h:Bl8 (nf q0)=some u0) (hK:∀ w1,Ho w0 w1 L→K (.int .i64 u0) w1):Aa1 P N.Ih2 #[.float .f64 q0] w K:=by
 refine H.r03_sign q0 w _ ?_
 unfold Du1
 unfold Bl8 at h
 try dsimp only
 obtain ⟨t1,ht1,h⟩:=bnd h
 obtain rfl:=Cm8 ht1
 refine Aa2 h ?_ ?_<;>intro hc h
 ·
  cases Aa0 h
  exact hK _ hS
 obtain ⟨t2,ht2,h⟩:=bnd h
 obtain rfl:=Ea8 ht2
 refine Aa2 h ?_ ?_<;>intro hc h
 ·
  cases Aa0 h
  exact hK _ hS
 cases Aa0 h
 exact hK _ hS
theorem Dm9 {q0 u0} (hS:Ho w0 w L)  (h:Be2 (nf q0)=some u0) (hK:∀ (z0:Nat) (w1:World),nf z0=u0→Ho w0 w1 L→K (.float .f64 z0) w1):Aa1 P N.Hy8 #[.float .f64 q0] w K:=by
 refine H.r03_further q0 w _ ?_
 unfold Ce3
 unfold Be2 at h
 try dsimp only
 obtain ⟨t1,ht1,h⟩:=bnd h
 refine Af2 H hS  ht1 ?_;rintro w hS
 refine ⟨_,rfl,?_⟩
 obtain ⟨t2,ht2,h⟩:=bnd h
 refine Ac2 H hS  ht2 ?_;rintro z1 w rfl hS
 refine ⟨_,rfl,?_⟩
 cases Aa0 h
 exact hK _ _ rfl hS
theorem Dx7 {q0 u0} (hS:Ho w0 w L)  (h:Bj5 (nf q0)=some u0) (hK:∀ (z0:Nat) (w1:World),nf z0=u0→Ho w0 w1 L→K (.float .f64 z0) w1):Aa1 P N.Ib4 #[.float .f64 q0] w K:=by
 refine H.r03_nearer q0 w _ ?_
 unfold Cr9
 unfold Bj5 at h
 try dsimp only
 obtain ⟨t1,ht1,h⟩:=bnd h
 refine Af2 H hS  ht1 ?_;rintro w hS
 refine ⟨_,rfl,?_⟩
 obtain ⟨t2,ht2,h⟩:=bnd h
 refine Ac2 H hS  ht2 ?_;rintro z1 w rfl hS
 refine ⟨_,rfl,?_⟩
 cases Aa0 h
 exact hK _ _ rfl hS
theorem Da0 {q0 u0} (hS:Ho w0 w L)  (h:Bn4 (nf q0)=some u0) (hK:∀ (z0:Nat) (w1:World),nf z0=u0→Ho w0 w1 L→K (.float .f64 z0) w1):Aa1 P N.Ik9 #[.float .f64 q0] w K:=by
 refine H.r03_up q0 w _ ?_
 unfold Fe5
 unfold Bn4 at h
 try dsimp only
 obtain ⟨t1,ht1,h⟩:=bnd h
 obtain rfl:=Bx5 ht1
 refine Aa2 h ?_ ?_<;>intro hc h
 ·
  obtain ⟨t2,ht2,h⟩:=bnd h
  refine Ac2 H hS  ht2 ?_;rintro z1 w rfl hS
  refine ⟨_,rfl,?_⟩
  cases Aa0 h
  exact hK _ _ rfl hS
 obtain ⟨t3,ht3,h⟩:=bnd h
 obtain rfl:=Ea8 ht3
 refine Aa2 h ?_ ?_<;>intro hc h
 ·
  obtain ⟨t4,ht4,h⟩:=bnd h
  refine Dm9 H hS  ht4 ?_;rintro z2 w rfl hS
  refine ⟨_,rfl,?_⟩
  cases Aa0 h
  exact hK _ _ rfl hS
 obtain ⟨t5,ht5,h⟩:=bnd h
 refine Dx7 H hS  ht5 ?_;rintro z3 w rfl hS
 refine ⟨_,rfl,?_⟩
 cases Aa0 h
 exact hK _ _ rfl hS
theorem Ew9 {q0 u0} (hS:Ho w0 w L)  (h:Bl7 (nf q0)=some u0) (hK:∀ (z0:Nat) (w1:World),nf z0=u0→Ho w0 w1 L→K (.float .f64 z0) w1):Aa1 P N.Ig4 #[.float .f64 q0] w K:=by
 refine H.r03_down q0 w _ ?_
 unfold Dq4
 unfold Bl7 at h
 try dsimp only
 obtain ⟨t1,ht1,h⟩:=bnd h
 obtain rfl:=Em2 ht1
 obtain ⟨t2,ht2,h⟩:=bnd h
 refine Da0 H hS  ht2 ?_;rintro z1 w rfl hS
 refine ⟨_,rfl,?_⟩
 obtain ⟨t3,ht3,h⟩:=bnd h
 obtain rfl:=Em2 ht3
 cases Aa0 h
 exact hK _ _ rfl hS
theorem Ey5 {q0 q1 q2 u0} (hS:Ho w0 w L)  (h:Bl9 (nf q0) q1 q2=some u0) (hK:∀ (z0:Nat) (w1:World),nf z0=u0→Ho w0 w1 L→K (.float .f64 z0) w1):Aa1 P N.Ih7 #[.float .f64 q0,.int .i64 q1,.int .i8 q2] w K:=by
 refine H.r03_side q0 q1 q2 w _ ?_
 unfold Ds7
 unfold Bl9 at h
 try dsimp only
 obtain ⟨t1,ht1,h⟩:=bnd h
 refine Af6 H hS  ht1 ?_;rintro w hS
 refine ⟨_,rfl,?_⟩
 obtain ⟨o1,h1,c1⟩:=bnd h
 refine Ab0 (fun s w=>∃ (t2:Bool),t2=o1∧s=(t2,())∧Ho w0 w L) (fun J1 hJ1=>?_) ?_
 ·
  have h:=h1
  clear h1
  refine Aa2 h ?_ ?_<;>intro hc h
  ·
   refine Aa2 h ?_ ?_<;>intro hc h
   ·
    refine Aa2 h ?_ ?_<;>intro hc h
    ·
     refine Aa2 h ?_ ?_<;>intro hc h
     ·
      obtain ⟨t3,ht3,h⟩:=bnd h
      obtain rfl:=Dp6 ht3
      exact hJ1 _ _ ⟨_,Aa0 h,rfl,hS⟩
     exact hJ1 _ _ ⟨_,Aa0 h,rfl,hS⟩
    exact hJ1 _ _ ⟨_,Aa0 h,rfl,hS⟩
   exact hJ1 _ _ ⟨_,Aa0 h,rfl,hS⟩
  exact hJ1 _ _ ⟨_,Aa0 h,rfl,hS⟩
 clear h1 hS
 rintro s w ⟨t2,rfl,rfl,hS⟩
 have h:=c1
 clear c1
 try dsimp only
 refine Aa2 h ?_ ?_<;>intro hc h
 ·
  obtain ⟨t4,ht4,h⟩:=bnd h
  refine Ew9 H hS  ht4 ?_;rintro z2 w rfl hS
  refine ⟨_,rfl,?_⟩
  cases Aa0 h
  exact hK _ _ rfl hS
 refine Aa2 h ?_ ?_<;>intro hc h
 ·
  refine Aa2 h ?_ ?_<;>intro hc h
  ·
   refine Aa2 h ?_ ?_<;>intro hc h
   ·
    refine Aa2 h ?_ ?_<;>intro hc h
    ·
     obtain ⟨t5,ht5,h⟩:=bnd h
     obtain rfl:=Dp6 ht5
     refine Aa2 h ?_ ?_<;>intro hc h
     ·
      obtain ⟨t6,ht6,h⟩:=bnd h
      refine Da0 H hS  ht6 ?_;rintro z3 w rfl hS
      refine ⟨_,rfl,?_⟩
      cases Aa0 h
      exact hK _ _ rfl hS
     cases Aa0 h
     exact hK _ _ rfl hS
    cases Aa0 h
    exact hK _ _ rfl hS
   cases Aa0 h
   exact hK _ _ rfl hS
  obtain ⟨t7,ht7,h⟩:=bnd h
  refine Da0 H hS  ht7 ?_;rintro z4 w rfl hS
  refine ⟨_,rfl,?_⟩
  cases Aa0 h
  exact hK _ _ rfl hS
 cases Aa0 h
 exact hK _ _ rfl hS
theorem Fl3 {q0 q1 q2 u0} (hS:Ho w0 w L)  (h:Bu2 (nf q0) (nf q1) q2=some u0) (hK:∀ (z0:Nat) (w1:World),nf z0=u0→Ho w0 w1 L→K (.float .f64 z0) w1):Aa1 P N.Ii4 #[.float .f64 q0,.float .f64 q1,.int .i8 q2] w K:=by
 refine H.r03_Add q0 q1 q2 w _ ?_
 unfold Es9
 unfold Bu2 at h
 try dsimp only
 obtain ⟨t1,ht1,h⟩:=bnd h
 refine Fg3 ht1 hS ?_;rintro z1 w rfl hS
 obtain ⟨t2,ht2,h⟩:=bnd h
 refine Bp0 H hS  ht2 ?_;rintro w hS
 refine ⟨_,rfl,?_⟩
 refine Aa2 h ?_ ?_<;>intro hc h
 ·
  obtain ⟨t3,ht3,h⟩:=bnd h
  refine Bp0 H hS  ht3 ?_;rintro w hS
  refine ⟨_,rfl,?_⟩
  refine Aa2 h ?_ ?_<;>intro hc h
  ·
   cases Aa0 h
   exact hK _ _ rfl hS
  obtain ⟨t4,ht4,h⟩:=bnd h
  refine Bp0 H hS  ht4 ?_;rintro w hS
  refine ⟨_,rfl,?_⟩
  refine Aa2 h ?_ ?_<;>intro hc h
  ·
   obtain ⟨t5,ht5,h⟩:=bnd h
   refine Es6 H hS  ht5 ?_;rintro z2 w rfl hS
   refine ⟨_,rfl,?_⟩
   cases Aa0 h
   exact hK _ _ rfl hS
  obtain ⟨t6,ht6,h⟩:=bnd h
  obtain rfl:=Bx5 ht6
  refine Aa2 h ?_ ?_<;>intro hc h
  ·
   obtain ⟨t7,ht7,h⟩:=bnd h
   obtain rfl:=Bx5 ht7
   obtain ⟨t8,ht8,h⟩:=bnd h
   refine Af6 H hS  ht8 ?_;rintro w hS
   refine ⟨_,rfl,?_⟩
   obtain ⟨t9,ht9,h⟩:=bnd h
   refine Dy6 H hS  ht9 ?_;rintro z3 w rfl hS
   refine ⟨_,rfl,?_⟩
   cases Aa0 h
   exact hK _ _ rfl hS
  obtain ⟨t10,ht10,h⟩:=bnd h
  refine Aj1 H hS  ht10 ?_;rintro z4 w rfl hS
  refine ⟨_,rfl,?_⟩
  obtain ⟨t11,ht11,h⟩:=bnd h
  refine Aj1 H hS  ht11 ?_;rintro z5 w rfl hS
  refine ⟨_,rfl,?_⟩
  obtain ⟨t12,ht12,h⟩:=bnd h
  obtain rfl:=Cm8 ht12
  obtain ⟨o8,h8,c8⟩:=bnd h
  refine Ab0 (fun s w=>∃ (z6:Nat) (z7:Nat),((nf z6),(nf z7))=o8∧s=(z6,z7,())∧Ho w0 w L) (fun J8 hJ8=>?_) ?_
  ·
   have h:=h8
   clear h8
   refine Aa2 h ?_ ?_<;>intro hc h
   ·
    exact hJ8 _ _ ⟨_,_,Aa0 h,rfl,hS⟩
   exact hJ8 _ _ ⟨_,_,Aa0 h,rfl,hS⟩
  clear h8 hS
  rintro s w ⟨z6,z7,rfl,rfl,hS⟩
  have h:=c8
  clear c8
  try dsimp only
  obtain ⟨t15,ht15,h⟩:=bnd h
  refine Bs5 ht15 hS ?_;rintro z9 w rfl hS
  obtain ⟨t16,ht16,h⟩:=bnd h
  refine Bs5 ht16 hS ?_;rintro z10 w rfl hS
  obtain ⟨t17,ht17,h⟩:=bnd h
  refine Ex6 H hS  ht17 ?_;rintro w hS
  refine ⟨_,rfl,?_⟩
  obtain ⟨t18,ht18,h⟩:=bnd h
  refine Ey5 H hS  ht18 ?_;rintro z11 w rfl hS
  refine ⟨_,rfl,?_⟩
  cases Aa0 h
  exact hK _ _ rfl hS
 cases Aa0 h
 exact hK _ _ rfl hS
theorem Cd6 {q0 qj qm vn u0} (hS:Ho w0 w L) (qw:EF L vn q0 qj qm) (h:Aw1 (List.map nf vn)=some u0) (hK:∀ (z0:Nat) (w1:World),nf z0=u0→Ho w0 w1 L→K (.float .f64 z0) w1):Aa1 P N.Ig9 #[.slice q0 qj qm] w K:=by
 refine H.r09_Norm q0 qj qm w _ ?_
 unfold Du5
 unfold Aw1 at h
 try dsimp only
 obtain ⟨o2,h2,c2⟩:=bnd h
 refine Ab0 (fun s w=>∃ (z1:Nat),(nf z1)=o2∧s=(z1,())∧Ho w0 w L) (fun J2 hJ2=>?_) ?_
 ·
  have h:=h2
  clear h2
  refine Ab6 (fun s w t=>∃ (z3:Nat) (t3:Int),((nf z3),t3)=t∧s=(z3,t3,())∧Ho w0 w L) ?_ h ⟨_,_,rfl,rfl,hS⟩
  clear h hS
  rintro s w t X q ⟨z3,t3,rfl,rfl,hS⟩ h hX hO
  unfold As3 at h
  try dsimp only
  obtain ⟨t4,ht4,h⟩:=bnd h
  obtain rfl:=Bd5 ht4 (qw.now (fun _ h=>h) hS)
  refine Aa2 h ?_ ?_<;>intro hc h
  ·
   obtain ⟨t5,ht5,h⟩:=bnd h
   obtain ⟨z4,rfl,q5x,jc,q5r⟩:=atF ht5
   refine Ac7 (qw.now (fun _ h=>h) hS) q5x jc q5r ?_;intro b6 hb6
   refine ⟨_,Ab4 (qw.now (fun _ h=>h) hS) hb6 q5x,?_⟩
   obtain ⟨t6,ht6,h⟩:=bnd h
   refine Aj1 H hS  ht6 ?_;rintro z7 w rfl hS
   refine ⟨_,rfl,?_⟩
   obtain ⟨t7,ht7,h⟩:=bnd h
   refine Fl3 H hS  ht7 ?_;rintro z8 w rfl hS
   refine ⟨_,rfl,?_⟩
   obtain rfl:=Aa0 h
   exact hX _ rfl _ _ ⟨_,_,rfl,rfl,hS⟩
  obtain rfl:=Aa0 h
  have h:=congrArg some (hO _ rfl)
  exact hJ2 _ _ ⟨_,Aa0 h,rfl,hS⟩
 clear h2 hS
 rintro s w ⟨z1,rfl,rfl,hS⟩
 have h:=c2
 clear c2
 try dsimp only
 cases Aa0 h
 exact hK _ _ rfl hS
theorem Ew2 {qb qc qd qa qf qr ql qk qh qi vh qq qs qt qz q2 qy vf vx q3 vm ye yu u0 u1} (hS:Ho w0 w L) (qp:EF L qr qd qa qf) (qv:EF L vh qk qh qi) (vg:EF L qz qq qs qt) (vw:EF L vx q2 qy vf) (jk:EF L yu q3 vm ye) (h:Bl5 qb qc (List.map nf qr) ql (List.map nf vh) (List.map nf qz) (List.map nf vx) (List.map nf yu)=some (u0,u1)) (hK:∀ (a0:OA) (n0 c0:Nat) (rws0:List Nat) (w1:World),List.map nf rws0=u0→Ho w0 w1 ((sl a0 n0 c0 (List.map (Value.float .f64) rws0) N.Ii0)::L)→K (.tuple #[.slice a0 n0 c0,.int .i64 u1]) w1):Aa1 P N.Ig6 #[.agg #[.int .i64 qb,.int .i64 qc,.slice qd qa qf],.agg #[.int .i64 ql,.slice qk qh qi,.slice qq qs qt],.slice q2 qy vf,.slice q3 vm ye] w K:=by
 refine H.r14_Step qb qc qd qa qf ql qk qh qi qq qs qt q2 qy vf q3 vm ye w _ ?_
 unfold Dx3
 unfold Bl5 at h
 try dsimp only
 refine Aa9 hS ?_;intro r1 w hS
 refine Aa9 hS ?_;intro r2 w hS
 obtain ⟨o3,h3,c3⟩:=bnd h
 refine Ab0 (fun s w=>∃ (t1:Bool),t1=o3∧s=(t1,())∧Ho w0 w ((cl r2 [.int .i64 ql,.slice qk qh qi,.slice qq qs qt] N.Ik8)::(cl r1 [.int .i64 qb,.int .i64 qc,.slice qd qa qf] N.Ik5)::L)) (fun J3 hJ3=>?_) ?_
 ·
  have h:=h3
  clear h3
  refine ⟨_,hS.cel mp1 rfl,_,hS.cel mp1 rfl,_,_,_,hS.cel mp1 rfl,?_⟩
  obtain ⟨t2,ht2,h⟩:=bnd h
  refine Dv6 H hS (qp.mono tl2) (vw.mono tl2) (jk.mono tl2) ht2 ?_;rintro w hS
  refine ⟨_,rfl,?_⟩
  refine Aa2 h ?_ ?_<;>intro hc h
  ·
   refine ⟨_,hS.cel mp1 rfl,_,hS.cel mp1 rfl,_,_,_,hS.cel mp1 rfl,_,hS.cel mp0 rfl,_,_,_,hS.cel mp0 rfl,_,_,_,hS.cel mp0 rfl,?_⟩
   obtain ⟨t3,ht3,h⟩:=bnd h
   refine Df6 H hS (qp.mono tl2) (qv.mono tl2) (vg.mono tl2) ht3 ?_;rintro w hS
   refine ⟨_,rfl,?_⟩
   exact hJ3 _ _ ⟨_,Aa0 h,rfl,hS⟩
  exact hJ3 _ _ ⟨_,Aa0 h,rfl,hS⟩
 clear h3 hS
 rintro s w ⟨t1,rfl,rfl,hS⟩
 have h:=c3
 clear c3
 try dsimp only
 refine Aa2 h ?_ ?_<;>intro hc h
 ·
  replace hS:=hS.none (α:=Nat) (enc:=(Value.float .f64)) (t:=N.Ii0)
  cases Aa0 h
  exact hK _ _ _ _ _ rfl (hS.pick (A:=[_,_,_]) [0] rfl)
 refine ⟨_,hS.cel mp1 rfl,_,hS.cel mp1 rfl,_,_,_,hS.cel mp1 rfl,?_⟩
 obtain ⟨⟨t4,t5⟩,ho4,h⟩:=bnd h
 refine Cd0 H hS (qp.mono tl2) (vw.mono tl2) (jk.mono tl2) ho4 ?_;clear hS ho4;rintro a4 m4 c4 jd w rfl hS
 refine ⟨_,_,_,_,rfl,?_⟩
 refine Aa2 h ?_ ?_<;>intro hc h
 ·
  replace hS:=hS.none (α:=Nat) (enc:=(Value.float .f64)) (t:=N.Ii0)
  cases Aa0 h
  exact hK _ _ _ _ _ rfl (hS.pick (A:=[_,_,_,_]) [0] rfl)
 refine ⟨_,hS.cel mp1 rfl,_,_,_,hS.cel mp1 rfl,_,_,_,hS.cel mp1 rfl,?_⟩
 obtain ⟨⟨t6,t7⟩,ho6,h⟩:=bnd h
 refine Cu9 H hS (qv.mono tl3) (vg.mono tl3) (Ent.sl mp0) ho6 ?_;clear hS ho6;rintro a5 m5 c5 jm w rfl hS
 refine ⟨_,_,_,_,rfl,?_⟩
 refine Aa2 h ?_ ?_<;>intro hc h
 ·
  replace hS:=hS.none (α:=Nat) (enc:=(Value.float .f64)) (t:=N.Ii0)
  cases Aa0 h
  exact hK _ _ _ _ _ rfl (hS.pick (A:=[_,_,_,_,_]) [0] rfl)
 obtain ⟨o10,h10,c10⟩:=bnd h
 refine Ab0 (fun s w=>∃ (a6:OA) (m7:Nat) (c8:Nat) (zi:List Nat),(List.map nf zi)=o10∧s=((a6,m7,c8),())∧Ho w0 w ((sl a6 m7 c8 (List.map (Value.float .f64) zi) N.Ii0)::L)) (fun J10 hJ10=>?_) ?_
 ·
  have h:=h10
  clear h10
  replace hS:=hS.none (α:=Nat) (enc:=(Value.float .f64)) (t:=N.Ii0)
  refine Ab6 (fun s w t=>∃ (t9:Int) (a11:OA) (m12:Nat) (c13:Nat) (jp:List Nat),(t9,(List.map nf jp))=t∧s=((a11,m12,c13),t9,())∧Ho w0 w ((sl a5 m5 c5 (List.map (Value.float .f64) jm) N.Ii0)::(sl a11 m12 c13 (List.map (Value.float .f64) jp) N.Ii0)::L)) ?_ h ⟨_,_,_,_,_,rfl,rfl,(hS.pick (A:=[_,_,_,_,_]) [1,0] rfl)⟩
  clear h hS
  rintro s w t X q ⟨t9,a11,m12,c13,jp,rfl,rfl,hS⟩ h hX hO
  unfold At0 at h
  try dsimp only
  obtain ⟨t11,ht11,h⟩:=bnd h
  obtain rfl:=Bd5 ht11 ((vw.mono tl2).now (fun _ h=>h) hS)
  refine Aa2 h ?_ ?_<;>intro hc h
  ·
   obtain ⟨t12,ht12,h⟩:=bnd h
   obtain ⟨z15,rfl,q16x,zj,q16r⟩:=atF ht12
   refine Ac7 ((vw.mono tl2).now (fun _ h=>h) hS) q16x zj q16r ?_;intro b17 hb17
   refine ⟨_,Ab4 ((vw.mono tl2).now (fun _ h=>h) hS) hb17 q16x,?_⟩
   obtain ⟨t13,ht13,h⟩:=bnd h
   obtain ⟨z18,rfl,q19x,jg,q19r⟩:=atF ht13
   refine Ac7 ((Ent.sl mp0).now (fun _ h=>h) hS) q19x jg q19r ?_;intro b20 hb20
   refine ⟨_,Ab4 ((Ent.sl mp0).now (fun _ h=>h) hS) hb20 q19x,?_⟩
   obtain ⟨t14,ht14,h⟩:=bnd h
   refine Fg3 ht14 hS ?_;clear ht14;rintro z21 _ rfl _
   refine Aa5 hS ?_;intro w hS
   obtain ⟨t15,ht15,h⟩:=bnd h
   obtain rfl:(List.map nf ([z21]:List Nat))=t15:=Aa0 ht15
   refine Ap0 (ks:=[z21]) (enc:=(Value.float .f64)) (m:=1) hS rfl rfl ?_;intro r22 w hS
   refine Aa5 hS ?_;intro w hS
   obtain ⟨t16,ht16,h⟩:=bnd h
   obtain ⟨rfl,kt16⟩:=Hi5 ht16
   replace hS:=ro2 hS
   refine Bx6 hS kt16 ((Ent.sl mp1).now (fun _ h=>h) hS) (fun _=>rfl) rfl ?_;clear hS kt16;intro a23 c23 w hS
   refine Aa5 hS ?_;intro w hS
   obtain rfl:=Aa0 h
   exact hX _ rfl _ _ ⟨_,_,_,_,_,rfl,rfl,(hS.pick (A:=[_,_,_]) [2,0] rfl)⟩
  obtain rfl:=Aa0 h
  have h:=congrArg some (hO _ rfl)
  obtain rfl:=Aa0 h
  exact hJ10 _ _ ⟨_,_,_,_,rfl,rfl,(hS.pick (A:=[_,_]) [1] rfl)⟩
 clear h10 hS
 rintro s w ⟨a6,m7,c8,zi,rfl,rfl,hS⟩
 have h:=c10
 clear c10
 try dsimp only
 obtain ⟨t17,ht17,h⟩:=bnd h
 refine Al9 H hS (Ent.sl mp0) ht17 ?_;rintro w hS
 refine ⟨_,rfl,?_⟩
 refine Aa2 h ?_ ?_<;>intro hc h
 ·
  replace hS:=hS.none (α:=Nat) (enc:=(Value.float .f64)) (t:=N.Ii0)
  cases Aa0 h
  exact hK _ _ _ _ _ rfl (hS.pick (A:=[_,_]) [0] rfl)
 cases Aa0 h
 exact hK _ _ _ _ _ rfl hS
theorem Es3 {qb qc qd qa qf qr ql qk qh qi vh qq qs qt qz q2 qy vf vx q3 u0 u1 u2} (hS:Ho w0 w L) (qp:EF L qr qd qa qf) (qv:EF L vh qk qh qi) (vg:EF L qz qq qs qt) (vw:EF L vx q2 qy vf) (h:Bh3 qb qc (List.map nf qr) ql (List.map nf vh) (List.map nf qz) (List.map nf vx) q3=some (u0,u1,u2)) (hK:∀ (a0:OA) (n0 c0:Nat) (rws0:List Nat) (w1:World),List.map nf rws0=u0→Ho w0 w1 ((sl a0 n0 c0 (List.map (Value.float .f64) rws0) N.Ii0)::L)→K (.tuple #[.slice a0 n0 c0,.int .i64 u1,.int .i64 u2]) w1):Aa1 P N.Ie3 #[.agg #[.int .i64 qb,.int .i64 qc,.slice qd qa qf],.agg #[.int .i64 ql,.slice qk qh qi,.slice qq qs qt],.slice q2 qy vf,.int .i64 q3] w K:=by
 refine H.r14_Until qb qc qd qa qf ql qk qh qi qq qs qt q2 qy vf q3 w _ ?_
 unfold Db4
 unfold Bh3 at h
 try dsimp only
 refine Aa9 hS ?_;intro r1 w hS
 refine Aa9 hS ?_;intro r2 w hS
 obtain ⟨o3,h3,c3⟩:=bnd h
 refine Ab0 (fun s w=>∃ (t1:Bool),t1=o3∧s=(t1,())∧Ho w0 w ((cl r2 [.int .i64 ql,.slice qk qh qi,.slice qq qs qt] N.Ik8)::(cl r1 [.int .i64 qb,.int .i64 qc,.slice qd qa qf] N.Ik5)::L)) (fun J3 hJ3=>?_) ?_
 ·
  have h:=h3
  clear h3
  refine Aa2 h ?_ ?_<;>intro hc h
  ·
   exact hJ3 _ _ ⟨_,Aa0 h,rfl,hS⟩
  exact hJ3 _ _ ⟨_,Aa0 h,rfl,hS⟩
 clear h3 hS
 rintro s w ⟨t1,rfl,rfl,hS⟩
 have h:=c3
 clear c3
 try dsimp only
 refine Aa2 h ?_ ?_<;>intro hc h
 ·
  replace hS:=hS.none (α:=Nat) (enc:=(Value.float .f64)) (t:=N.Ii0)
  cases Aa0 h
  exact hK _ _ _ _ _ rfl (hS.pick (A:=[_,_,_]) [0] rfl)
 obtain ⟨o4,h4,c4⟩:=bnd h
 refine Ab0 (fun s w=>∃ (t2:Bool),t2=o4∧s=(t2,())∧Ho w0 w ((cl r2 [.int .i64 ql,.slice qk qh qi,.slice qq qs qt] N.Ik8)::(cl r1 [.int .i64 qb,.int .i64 qc,.slice qd qa qf] N.Ik5)::L)) (fun J4 hJ4=>?_) ?_
 ·
  have h:=h4
  clear h4
  refine ⟨_,hS.cel mp1 rfl,_,hS.cel mp1 rfl,_,_,_,hS.cel mp1 rfl,_,hS.cel mp0 rfl,_,_,_,hS.cel mp0 rfl,_,_,_,hS.cel mp0 rfl,?_⟩
  obtain ⟨t3,ht3,h⟩:=bnd h
  refine Df6 H hS (qp.mono tl2) (qv.mono tl2) (vg.mono tl2) ht3 ?_;rintro w hS
  refine ⟨_,rfl,?_⟩
  refine Aa2 h ?_ ?_<;>intro hc h
  ·
   obtain ⟨t4,ht4,h⟩:=bnd h
   obtain rfl:=Bd5 ht4 ((vw.mono tl2).now (fun _ h=>h) hS)
   refine ⟨_,hS.cel mp1 rfl,?_⟩
   exact hJ4 _ _ ⟨_,Aa0 h,rfl,hS⟩
  exact hJ4 _ _ ⟨_,Aa0 h,rfl,hS⟩
 clear h4 hS
 rintro s w ⟨t2,rfl,rfl,hS⟩
 have h:=c4
 clear c4
 try dsimp only
 refine Aa2 h ?_ ?_<;>intro hc h
 ·
  replace hS:=hS.none (α:=Nat) (enc:=(Value.float .f64)) (t:=N.Ii0)
  cases Aa0 h
  exact hK _ _ _ _ _ rfl (hS.pick (A:=[_,_,_]) [0] rfl)
 obtain ⟨o5,h5,c5⟩:=bnd h
 refine Ab0 (fun s w=>∃ (t5:Bool),t5=o5∧s=(t5,())∧Ho w0 w ((cl r2 [.int .i64 ql,.slice qk qh qi,.slice qq qs qt] N.Ik8)::(cl r1 [.int .i64 qb,.int .i64 qc,.slice qd qa qf] N.Ik5)::L)) (fun J5 hJ5=>?_) ?_
 ·
  have h:=h5
  clear h5
  refine ⟨_,_,_,hS.cel mp1 rfl,?_⟩
  obtain ⟨t6,ht6,h⟩:=bnd h
  refine Al9 H hS (qp.mono tl2) ht6 ?_;rintro w hS
  refine ⟨_,rfl,?_⟩
  refine Aa2 h ?_ ?_<;>intro hc h
  ·
   obtain ⟨t7,ht7,h⟩:=bnd h
   refine Al9 H hS (vw.mono tl2) ht7 ?_;rintro w hS
   refine ⟨_,rfl,?_⟩
   exact hJ5 _ _ ⟨_,Aa0 h,rfl,hS⟩
  exact hJ5 _ _ ⟨_,Aa0 h,rfl,hS⟩
 clear h5 hS
 rintro s w ⟨t5,rfl,rfl,hS⟩
 have h:=c5
 clear c5
 try dsimp only
 refine Aa2 h ?_ ?_<;>intro hc h
 ·
  replace hS:=hS.none (α:=Nat) (enc:=(Value.float .f64)) (t:=N.Ii0)
  cases Aa0 h
  exact hK _ _ _ _ _ rfl (hS.pick (A:=[_,_,_]) [0] rfl)
 refine ⟨_,hS.cel mp0 rfl,_,_,_,hS.cel mp0 rfl,_,_,_,hS.cel mp0 rfl,?_⟩
 obtain ⟨⟨t8,t9⟩,ho8,h⟩:=bnd h
 refine Cu9 H hS (qv.mono tl2) (vg.mono tl2) (vw.mono tl2) ho8 ?_;clear hS ho8;rintro a6 m6 c6 yi w rfl hS
 refine ⟨_,_,_,_,rfl,?_⟩
 refine Aa2 h ?_ ?_<;>intro hc h
 ·
  replace hS:=hS.none (α:=Nat) (enc:=(Value.float .f64)) (t:=N.Ii0)
  cases Aa0 h
  exact hK _ _ _ _ _ rfl (hS.pick (A:=[_,_,_,_]) [0] rfl)
 obtain ⟨t10,ht10,h⟩:=bnd h
 refine Al9 H hS (Ent.sl mp0) ht10 ?_;rintro w hS
 refine ⟨_,rfl,?_⟩
 refine Aa2 h ?_ ?_<;>intro hc h
 ·
  replace hS:=hS.none (α:=Nat) (enc:=(Value.float .f64)) (t:=N.Ii0)
  cases Aa0 h
  exact hK _ _ _ _ _ rfl (hS.pick (A:=[_,_,_,_]) [0] rfl)
 refine ⟨_,hS.cel mp2 rfl,_,hS.cel mp2 rfl,_,_,_,hS.cel mp2 rfl,?_⟩
 obtain ⟨⟨t11,t12⟩,ho11,h⟩:=bnd h
 refine Cd0 H hS (qp.mono tl3) (Ent.sl mp0) (vw.mono tl3) ho11 ?_;clear hS ho11;rintro a7 m7 c7 bu w rfl hS
 refine ⟨_,_,_,_,rfl,?_⟩
 refine Aa2 h ?_ ?_<;>intro hc h
 ·
  replace hS:=hS.none (α:=Nat) (enc:=(Value.float .f64)) (t:=N.Ii0)
  cases Aa0 h
  exact hK _ _ _ _ _ rfl (hS.pick (A:=[_,_,_,_,_]) [0] rfl)
 obtain ⟨t13,ht13,h⟩:=bnd h
 refine Cd6 H hS (Ent.sl mp0) ht13 ?_;rintro z8 w rfl hS
 refine ⟨_,rfl,?_⟩
 obtain ⟨o13,h13,c13⟩:=bnd h
 refine Ab0 (fun s w=>∃ (t14:Int) (a9:OA) (m10:Nat) (c11:Nat) (gd:List Nat),(t14,(List.map nf gd))=o13∧s=((a9,m10,c11),t14,())∧Ho w0 w ((sl a9 m10 c11 (List.map (Value.float .f64) gd) N.Ii0)::L)) (fun J13 hJ13=>?_) ?_
 ·
  have h:=h13
  clear h13
  refine Ab6 (fun s w t=>∃ (z14:Nat) (t17:Int) (a15:OA) (m16:Nat) (c17:Nat) (yy:List Nat),((nf z14),t17,(List.map nf yy))=t∧s=((a15,m16,c17),z14,t17,())∧Ho w0 w ((cl r2 [.int .i64 ql,.slice qk qh qi,.slice qq qs qt] N.Ik8)::(cl r1 [.int .i64 qb,.int .i64 qc,.slice qd qa qf] N.Ik5)::(sl a15 m16 c17 (List.map (Value.float .f64) yy) N.Ii0)::L)) ?_ h ⟨_,_,_,_,_,_,rfl,rfl,(hS.pick (A:=[_,_,_,_]) [2,2,1] rfl)⟩
  clear h hS
  rintro s w t X q ⟨z14,t17,a15,m16,c17,yy,rfl,rfl,hS⟩ h hX hO
  unfold Am2 at h
  try dsimp only
  refine Aa2 h ?_ ?_<;>intro hc h
  ·
   refine ⟨_,hS.cel mp1 rfl,_,hS.cel mp1 rfl,_,_,_,hS.cel mp1 rfl,_,hS.cel mp0 rfl,_,_,_,hS.cel mp0 rfl,_,_,_,hS.cel mp0 rfl,?_⟩
   obtain ⟨⟨t19,t20⟩,ho19,h⟩:=bnd h
   refine Ew2 H hS (qp.mono tl3) (qv.mono tl3) (vg.mono tl3) (Ent.sl mp2) (vw.mono tl3) ho19 ?_;clear hS ho19;rintro a19 m19 c19 yt w rfl hS
   refine ⟨_,_,_,_,rfl,?_⟩
   refine Aa2 h ?_ ?_<;>intro hc h
   ·
    obtain rfl:=Aa0 h
    have h:=congrArg some (hO _ rfl)
    obtain rfl:=Aa0 h
    exact hJ13 _ _ ⟨_,_,_,_,_,rfl,rfl,(hS.pick (A:=[_,_,_,_]) [3] rfl)⟩
   refine ⟨_,hS.cel mp2 rfl,_,hS.cel mp2 rfl,_,_,_,hS.cel mp2 rfl,?_⟩
   obtain ⟨⟨t21,t22⟩,ho21,h⟩:=bnd h
   refine Cd0 H hS (qp.mono tl4) (Ent.sl mp0) (vw.mono tl4) ho21 ?_;clear hS ho21;rintro a20 m20 c20 zc w rfl hS
   refine ⟨_,_,_,_,rfl,?_⟩
   refine Aa2 h ?_ ?_<;>intro hc h
   ·
    obtain ⟨t23,ht23,h⟩:=bnd h
    refine Cd6 H hS (Ent.sl mp0) ht23 ?_;rintro z21 w rfl hS
    refine ⟨_,rfl,?_⟩
    obtain ⟨t24,ht24,h⟩:=bnd h
    obtain rfl:=Cm8 ht24
    refine Aa2 h ?_ ?_<;>intro hc h
    ·
     obtain rfl:=Aa0 h
     have h:=congrArg some (hO _ rfl)
     obtain rfl:=Aa0 h
     exact hJ13 _ _ ⟨_,_,_,_,_,rfl,rfl,(hS.pick (A:=[_,_,_,_,_]) [4] rfl)⟩
    obtain ⟨t25,ht25,h⟩:=bnd h
    refine Cd6 H hS (Ent.sl mp0) ht25 ?_;rintro z22 w rfl hS
    refine ⟨_,rfl,?_⟩
    obtain rfl:=Aa0 h
    exact hX _ rfl _ _ ⟨_,_,_,_,_,_,rfl,rfl,(hS.pick (A:=[_,_,_,_,_]) [2,2,1] rfl)⟩
   obtain rfl:=Aa0 h
   have h:=congrArg some (hO _ rfl)
   obtain rfl:=Aa0 h
   exact hJ13 _ _ ⟨_,_,_,_,_,rfl,rfl,(hS.pick (A:=[_,_,_,_,_]) [4] rfl)⟩
  obtain rfl:=Aa0 h
  have h:=congrArg some (hO _ rfl)
  obtain rfl:=Aa0 h
  exact hJ13 _ _ ⟨_,_,_,_,_,rfl,rfl,(hS.pick (A:=[_,_,_]) [2] rfl)⟩
 clear h13 hS
 rintro s w ⟨t14,a9,m10,c11,gd,rfl,rfl,hS⟩
 have h:=c13
 clear c13
 try dsimp only
 cases Aa0 h
 exact hK _ _ _ _ _ rfl hS
theorem Dn1 {q0 q1 u0} (hS:Ho w0 w L)  (hx:Ax8 (nf q0) (nf q1)=some u0) (hK:∀ w1,Ho w0 w1 L→K (.bool u0) w1):Aa1 P N.Hx1 #[.float .f64 q0,.float .f64 q1] w K:=by
 unfold Ax8 at hx
 have hx:=Aa0 hx
 subst hx
 refine (Cz6 H q0 q1 w).mono ?_
 rintro _ w1 ⟨rfl,h1⟩
 exact hK _ (hS.next h1)
theorem Ba5 {q0 qj qm vn q1 qo qu vk u0} (hS:Ho w0 w L) (qw:EF L vn q0 qj qm) (ve:EF L vk q1 qo qu) (h:Ak8 (List.map nf vn) (List.map nf vk)=some u0) (hK:∀ w1,Ho w0 w1 L→K (.bool u0) w1):Aa1 P N.Hy7 #[.slice q0 qj qm,.slice q1 qo qu] w K:=by
 refine H.k_SameReals q0 qj qm q1 qo qu w _ ?_
 unfold Ci4
 unfold Ak8 at h
 try dsimp only
 obtain ⟨t1,ht1,h⟩:=bnd h
 obtain rfl:=Bd5 ht1 (qw.now (fun _ h=>h) hS)
 obtain ⟨t2,ht2,h⟩:=bnd h
 obtain rfl:=Bd5 ht2 (ve.now (fun _ h=>h) hS)
 refine Aa2 h ?_ ?_<;>intro hc h
 ·
  cases Aa0 h
  exact hK _ hS
 obtain ⟨o1,h1,c1⟩:=bnd h
 refine Ab0 (fun s w =>  .inl ()=o1∧s=(())∧Ho w0 w L) (fun J1 hJ1=>?_) ?_
 ·
  have h:=h1
  clear h1
  refine Ab6 (fun s w t=>∃ (t3:Int),t3=t∧s=(t3,())∧Ho w0 w L) ?_ h ⟨_,rfl,rfl,hS⟩
  clear h hS
  rintro s w t X q ⟨t3,rfl,rfl,hS⟩ h hX hO
  unfold Ag3 at h
  try dsimp only
  obtain ⟨t4,ht4,h⟩:=bnd h
  obtain rfl:=Bd5 ht4 (qw.now (fun _ h=>h) hS)
  refine Aa2 h ?_ ?_<;>intro hc h
  ·
   obtain ⟨t5,ht5,h⟩:=bnd h
   obtain ⟨z2,rfl,q3x,vm,q3r⟩:=atF ht5
   refine Ac7 (qw.now (fun _ h=>h) hS) q3x vm q3r ?_;intro b4 hb4
   refine ⟨_,Ab4 (qw.now (fun _ h=>h) hS) hb4 q3x,?_⟩
   obtain ⟨t6,ht6,h⟩:=bnd h
   obtain ⟨z5,rfl,q6x,yh,q6r⟩:=atF ht6
   refine Ac7 (ve.now (fun _ h=>h) hS) q6x yh q6r ?_;intro b7 hb7
   refine ⟨_,Ab4 (ve.now (fun _ h=>h) hS) hb7 q6x,?_⟩
   refine Aa5 hS ?_;intro w hS
   obtain ⟨t7,ht7,h⟩:=bnd h
   refine Dn1 H hS  ht7 ?_;rintro w hS
   refine ⟨_,rfl,?_⟩
   refine Aa5 hS ?_;intro w hS
   refine Aa2 h ?_ ?_<;>intro hc h
   ·
    obtain rfl:=Aa0 h
    have h:=congrArg some (hO _ rfl)
    obtain rfl:=Aa0 h
    have h:=c1
    cases Aa0 h
    exact hK _ hS
   obtain rfl:=Aa0 h
   exact hX _ rfl _ _ ⟨_,rfl,rfl,hS⟩
  obtain rfl:=Aa0 h
  have h:=congrArg some (hO _ rfl)
  exact hJ1 _ _ ⟨Aa0 h,rfl,hS⟩
 clear h1 hS
 rintro s w ⟨rfl,rfl,hS⟩
 have h:=c1
 clear c1
 try dsimp only
 cases Aa0 h
 exact hK _ hS
theorem De1 {qb qc qd qa qf qr ql qk qq qs qt qz u0} (hS:Ho w0 w L) (qp:EF L qr qd qa qf) (vg:EF L qz qq qs qt) (h:Au7 qb qc (List.map nf qr) ql qk (List.map nf qz)=some u0) (hK:∀ w1,Ho w0 w1 L→K (.bool u0) w1):Aa1 P N.Hw8 #[.agg #[.int .i64 qb,.int .i64 qc,.slice qd qa qf],.agg #[.int .i64 ql,.int .i64 qk,.slice qq qs qt]] w K:=by
 refine H.k_SameMatrix qb qc qd qa qf ql qk qq qs qt w _ ?_
 unfold Cb2
 unfold Au7 at h
 try dsimp only
 refine Aa9 hS ?_;intro r1 w hS
 refine Aa9 hS ?_;intro r2 w hS
 refine ⟨_,hS.cel mp1 rfl,_,hS.cel mp0 rfl,?_⟩
 refine Aa2 h ?_ ?_<;>intro hc h
 ·
  refine ⟨_,hS.cel mp1 rfl,_,hS.cel mp0 rfl,?_⟩
  refine Aa2 h ?_ ?_<;>intro hc h
  ·
   refine ⟨_,_,_,hS.cel mp1 rfl,_,_,_,hS.cel mp0 rfl,?_⟩
   obtain ⟨t1,ht1,h⟩:=bnd h
   refine Ba5 H hS (qp.mono tl2) (vg.mono tl2) ht1 ?_;rintro w hS
   refine ⟨_,rfl,?_⟩
   cases Aa0 h
   exact hK _ (hS.pick (A:=[_,_]) [] rfl)
  cases Aa0 h
  exact hK _ (hS.pick (A:=[_,_]) [] rfl)
 cases Aa0 h
 exact hK _ (hS.pick (A:=[_,_]) [] rfl)
theorem Ba6 {q0 qj q1 qo qu vk u0} (hS:Ho w0 w L) (qw:Ent L (rdA (List.map (Value.float .f64) (vk++Bf3)) q0 (qj+12) (qj+12))) (ve:EF L vk q1 qo qu) (hx:Al2 (List.map nf vk) (List.map nf vk)=some u0) (hK:∀ w1,Ho w0 w1 L→K (.bool u0) w1):Aa1 P N.Hy2 #[.slice q0 qj (qj+12),.slice q1 qo qu] w K:=by
 unfold Al2 at hx
 have hd:(List.map nf vk).length≤4294967000:=by
  rcases Nat.lt_or_ge 4294967000 (List.map nf vk).length with h | h
  ·
   rw [decide_eq_false (by omega)] at hx;cases hx
  exact h
 rw [decide_eq_true hd] at hx
 have hx:=Aa0 hx
 subst hx
 have r1:=(ve.now (fun _ h=>h) hS).reals
 have r0:=(qw.now (fun _ h=>h) hS).reals
 have e:qj=qo:=by have:=r1.len;have:=r0.len;simp [Bf3] at this;omega
 subst e
 refine (Ex8 H r0 r1 (by have:=r1.len;simp at hd;omega)).mono ?_
 rintro _ w1 ⟨rfl,h1⟩
 exact hK _ (hS.next h1)
theorem Dh3 {qb qc qd qa ql qk qq qs qt qz u0} (hS:Ho w0 w L) (qp:Ent L (rdA (List.map (Value.float .f64) (qz++Bf3)) qd (qa+12) (qa+12))) (vg:EF L qz qq qs qt) (h:Au0 qb qc (List.map nf qz) ql qk (List.map nf qz)=some u0) (hK:∀ w1,Ho w0 w1 L→K (.bool u0) w1):Aa1 P N.Hv8 #[.agg #[.int .i64 qb,.int .i64 qc,.slice qd qa (qa+12)],.agg #[.int .i64 ql,.int .i64 qk,.slice qq qs qt]] w K:=by
 refine H.k_KeptMatrix qb qc qd qa (qa+12) ql qk qq qs qt w _ ?_
 unfold Cc4
 unfold Au0 at h
 try dsimp only
 refine Aa9 hS ?_;intro r1 w hS
 refine Aa9 hS ?_;intro r2 w hS
 refine ⟨_,hS.cel mp1 rfl,_,hS.cel mp1 rfl,_,_,_,hS.cel mp1 rfl,_,hS.cel mp0 rfl,_,hS.cel mp0 rfl,_,_,_,hS.cel mp0 rfl,?_⟩
 obtain ⟨t1,ht1,h⟩:=bnd h
 refine De1 H hS (Ent.lent (qp.mono tl2) rfl rfl) (vg.mono tl2) ht1 ?_;rintro w hS
 refine ⟨_,rfl,?_⟩
 refine Aa2 h ?_ ?_<;>intro hc h
 ·
  refine ⟨_,_,_,hS.cel mp1 rfl,_,_,_,hS.cel mp0 rfl,?_⟩
  obtain ⟨t2,ht2,h⟩:=bnd h
  refine Ba6 H hS (qp.mono tl2) (vg.mono tl2) ht2 ?_;rintro w hS
  refine ⟨_,rfl,?_⟩
  cases Aa0 h
  exact hK _ (hS.pick (A:=[_,_]) [] rfl)
 cases Aa0 h
 exact hK _ (hS.pick (A:=[_,_]) [] rfl)
theorem Df3 {qb qc qe qg qx qd qa qf qr ql qk qh qi vh qq qs qt qz u0} (hS:Ho w0 w L) (qn:EF L qx qc qe qg) (qp:EF L qr qd qa qf) (qv:EF L vh qk qh qi) (vg:EF L qz qq qs qt) (h:Ba8 qb (List.map nf qx) (List.map nf qr) ql (List.map nf vh) (List.map nf qz)=some u0) (hK:∀ w1,Ho w0 w1 L→K (.bool u0) w1):Aa1 P N.Hv6 #[.agg #[.int .i64 qb,.slice qc qe qg,.slice qd qa qf],.agg #[.int .i64 ql,.slice qk qh qi,.slice qq qs qt]] w K:=by
 refine H.k_SameFactor qb qc qe qg qd qa qf ql qk qh qi qq qs qt w _ ?_
 unfold Cb8
 unfold Ba8 at h
 try dsimp only
 refine Aa9 hS ?_;intro r1 w hS
 refine Aa9 hS ?_;intro r2 w hS
 refine ⟨_,hS.cel mp1 rfl,_,hS.cel mp0 rfl,?_⟩
 refine Aa2 h ?_ ?_<;>intro hc h
 ·
  refine ⟨_,_,_,hS.cel mp1 rfl,_,_,_,hS.cel mp0 rfl,?_⟩
  obtain ⟨t1,ht1,h⟩:=bnd h
  refine Ba5 H hS (qn.mono tl2) (qv.mono tl2) ht1 ?_;rintro w hS
  refine ⟨_,rfl,?_⟩
  refine Aa2 h ?_ ?_<;>intro hc h
  ·
   refine ⟨_,_,_,hS.cel mp1 rfl,_,_,_,hS.cel mp0 rfl,?_⟩
   obtain ⟨t2,ht2,h⟩:=bnd h
   refine Ba5 H hS (qp.mono tl2) (vg.mono tl2) ht2 ?_;rintro w hS
   refine ⟨_,rfl,?_⟩
   cases Aa0 h
   exact hK _ (hS.pick (A:=[_,_]) [] rfl)
  cases Aa0 h
  exact hK _ (hS.pick (A:=[_,_]) [] rfl)
 cases Aa0 h
 exact hK _ (hS.pick (A:=[_,_]) [] rfl)
theorem Dk5 {qb qc qe qd qa ql qk qh qi vh qq qs qt qz u0} (hS:Ho w0 w L) (qn:Ent L (rdA (List.map (Value.float .f64) (vh++Bf3)) qc (qe+12) (qe+12))) (qp:Ent L (rdA (List.map (Value.float .f64) (qz++Bf3)) qd (qa+12) (qa+12))) (qv:EF L vh qk qh qi) (vg:EF L qz qq qs qt) (h:Au1 qb (List.map nf vh) (List.map nf qz) ql (List.map nf vh) (List.map nf qz)=some u0) (hK:∀ w1,Ho w0 w1 L→K (.bool u0) w1):Aa1 P N.Hw9 #[.agg #[.int .i64 qb,.slice qc qe (qe+12),.slice qd qa (qa+12)],.agg #[.int .i64 ql,.slice qk qh qi,.slice qq qs qt]] w K:=by
 refine H.k_KeptFactor qb qc qe (qe+12) qd qa (qa+12) ql qk qh qi qq qs qt w _ ?_
 unfold Bz8
 unfold Au1 at h
 try dsimp only
 refine Aa9 hS ?_;intro r1 w hS
 refine Aa9 hS ?_;intro r2 w hS
 refine ⟨_,hS.cel mp1 rfl,_,_,_,hS.cel mp1 rfl,_,_,_,hS.cel mp1 rfl,_,hS.cel mp0 rfl,_,_,_,hS.cel mp0 rfl,_,_,_,hS.cel mp0 rfl,?_⟩
 obtain ⟨t1,ht1,h⟩:=bnd h
 refine Df3 H hS (Ent.lent (qn.mono tl2) rfl rfl) (Ent.lent (qp.mono tl2) rfl rfl) (qv.mono tl2) (vg.mono tl2) ht1 ?_;rintro w hS
 refine ⟨_,rfl,?_⟩
 refine Aa2 h ?_ ?_<;>intro hc h
 ·
  refine ⟨_,_,_,hS.cel mp1 rfl,_,_,_,hS.cel mp0 rfl,?_⟩
  obtain ⟨t2,ht2,h⟩:=bnd h
  refine Ba6 H hS (qn.mono tl2) (qv.mono tl2) ht2 ?_;rintro w hS
  refine ⟨_,rfl,?_⟩
  refine Aa2 h ?_ ?_<;>intro hc h
  ·
   refine ⟨_,_,_,hS.cel mp1 rfl,_,_,_,hS.cel mp0 rfl,?_⟩
   obtain ⟨t3,ht3,h⟩:=bnd h
   refine Ba6 H hS (qp.mono tl2) (vg.mono tl2) ht3 ?_;rintro w hS
   refine ⟨_,rfl,?_⟩
   cases Aa0 h
   exact hK _ (hS.pick (A:=[_,_]) [] rfl)
  cases Aa0 h
  exact hK _ (hS.pick (A:=[_,_]) [] rfl)
 cases Aa0 h
 exact hK _ (hS.pick (A:=[_,_]) [] rfl)
theorem Cl9 {qb qc qd qa qf qr yl ym vo vz yz yn vp ya ja yo yb yc jq yp vq yd jb q1 u0} (hS:Ho w0 w L) (qp:EF L qr qd qa qf) (vu:EF L yz ym vo vz) (vv:EF L ja yn vp ya) (zp:EF L jq yo yb yc) (vj:EF L jb yp vq yd) (hG:Ent L (Bx7 N.Im4)) (h:As7 qb qc (List.map nf qr) yl (List.map nf yz) (List.map nf ja) (List.map nf jq) (List.map nf jb) q1=some u0) (hK:∀ w1,Ho w0 w1 L→K (.bool u0) w1):Aa1 P N.Hv0 #[.agg #[.int .i64 qb,.int .i64 qc,.slice qd qa qf,.int .i64 yl,.slice ym vo vz,.slice yn vp ya,.slice yo yb yc,.slice yp vq yd],.int .i64 q1] w K:=by
 refine H.w14_RefineUntil qb qc qd qa qf yl ym vo vz yn vp ya yo yb yc yp vq yd q1 w _ ?_
 unfold Bm7
 unfold As7 at h
 try dsimp only
 refine Aa9 hS ?_;intro r1 w hS
 obtain ⟨t1,ht1,h⟩:=bnd h
 refine En9 H hS (hG.mono tl1) ht1 ?_;rintro w hS
 refine ⟨_,rfl,?_⟩
 refine Aa2 h ?_ ?_<;>intro hc h
 ·
  cases Aa0 h
  exact hK _ (hS.pick (A:=[_]) [] rfl)
 obtain ⟨o2,h2,c2⟩:=bnd h
 refine Ab0 (fun s w=>∃ (t2:Bool),t2=o2∧s=(t2,())∧Ho w0 w ((cl r1 [.int .i64 qb,.int .i64 qc,.slice qd qa qf,.int .i64 yl,.slice ym vo vz,.slice yn vp ya,.slice yo yb yc,.slice yp vq yd] N.Ih0)::L)) (fun J2 hJ2=>?_) ?_
 ·
  have h:=h2
  clear h2
  refine ⟨_,hS.cel mp0 rfl,_,hS.cel mp0 rfl,_,_,_,hS.cel mp0 rfl,?_⟩
  obtain ⟨t3,ht3,h⟩:=bnd h
  refine Ep2 H hS (qp.mono tl1) ht3 ?_;rintro w hS
  refine ⟨_,rfl,?_⟩
  refine Aa2 h ?_ ?_<;>intro hc h
  ·
   refine ⟨_,_,_,hS.cel mp0 rfl,?_⟩
   obtain ⟨t4,ht4,h⟩:=bnd h
   obtain rfl:=Bd5 ht4 ((vj.mono tl1).now (fun _ h=>h) hS)
   exact hJ2 _ _ ⟨_,Aa0 h,rfl,hS⟩
  exact hJ2 _ _ ⟨_,Aa0 h,rfl,hS⟩
 clear h2 hS
 rintro s w ⟨t2,rfl,rfl,hS⟩
 have h:=c2
 clear c2
 try dsimp only
 refine Aa2 h ?_ ?_<;>intro hc h
 ·
  cases Aa0 h
  exact hK _ (hS.pick (A:=[_]) [] rfl)
 obtain ⟨o9,h9,c9⟩:=bnd h
 refine Ab0 (fun s w=>∃ (r3:Nat) (t5:Int) (r4:Nat) (t6:Int) (t7:Int) (r5:Nat) (r6:Nat) (r7:Nat) (r8:Nat),(t5,t6,t7,(List.map nf jb),(List.map nf yz),(List.map nf ja),(List.map nf qr))=o9∧s=((some ⟨r4,0,none⟩),(some ⟨r3,0,none⟩),((some ⟨r5,0,none⟩),vq,(vq+12)),())∧Ho w0 w ((cl r3 [.int .i64 t5,.slice (some ⟨r6,0,none⟩) vo (vo+12),.slice (some ⟨r7,0,none⟩) vp (vp+12)] N.Ik8)::(cl r4 [.int .i64 t6,.int .i64 t7,.slice (some ⟨r8,0,none⟩) qa (qa+12)] N.Ik5)::(sl (some ⟨r5,0,none⟩) (vq+12) (vq+12) (List.map (Value.float .f64) (jb++Bf3)) N.Ii0)::(sl (some ⟨r6,0,none⟩) (vo+12) (vo+12) (List.map (Value.float .f64) (yz++Bf3)) N.Ii0)::(sl (some ⟨r7,0,none⟩) (vp+12) (vp+12) (List.map (Value.float .f64) (ja++Bf3)) N.Ii0)::(sl (some ⟨r8,0,none⟩) (qa+12) (qa+12) (List.map (Value.float .f64) (qr++Bf3)) N.Ii0)::(cl r1 [.int .i64 qb,.int .i64 qc,.slice qd qa qf,.int .i64 yl,.slice ym vo vz,.slice yn vp ya,.slice yo yb yc,.slice yp vq yd] N.Ih0)::L)) (fun J9 hJ9=>?_) ?_
 ·
  have h:=h9
  clear h9
  refine ⟨_,hS.cel mp0 rfl,_,hS.cel mp0 rfl,_,_,_,hS.cel mp0 rfl,_,hS.cel mp0 rfl,_,_,_,hS.cel mp0 rfl,_,_,_,hS.cel mp0 rfl,_,_,_,hS.cel mp0 rfl,?_⟩
  refine ⟨?_,?_,?_⟩
  ·
   refine Aa5 hS ?_;intro w hS
   obtain ⟨⟨t12,t13,t14⟩,ho12,h⟩:=bnd h
   refine Aq6 H hS (qp.mono tl1) ho12 ?_;clear hS ho12;rintro r10 w rfl hS
   refine ⟨_,_,_,_,_,rfl,?_⟩
   refine ⟨(hS.cel mp1 rfl),?_⟩
   refine ⟨(hS.cel mp1 rfl),?_⟩
   refine ⟨(hS.cel mp1 rfl),?_⟩
   refine ⟨(hS.cel mp1 rfl),?_⟩
   refine ⟨?_,?_,?_⟩
   ·
    refine Aa5 hS ?_;intro w hS
    obtain ⟨⟨t15,t16,t17⟩,ho15,h⟩:=bnd h
    refine Ae4 H hS (vu.mono tl2) (vv.mono tl2) ho15 ?_;clear hS ho15;rintro r11 r12 w rfl rfl hS
    refine ⟨_,_,_,_,_,_,_,rfl,?_⟩
    refine ⟨(hS.cel mp3 rfl),?_⟩
    refine ⟨?_,?_,?_⟩
    ·
     refine Aa5 hS ?_;intro w hS
     obtain ⟨t18,ht18,h⟩:=bnd h
     refine Ac1 H hS (vj.mono tl4) ht18 ?_;rintro r13 w rfl hS
     refine ⟨_,_,_,rfl,?_⟩
     refine ⟨?_,?_⟩
     ·
      refine Aa5 hS ?_;intro w hS
      refine Aa9 hS ?_;intro r14 w hS
      refine Aa5 hS ?_;intro w hS
      refine Aa9 hS ?_;intro r15 w hS
      refine Aa5 hS ?_;intro w hS
      replace hS:=ro1 hS
      refine Aa4 hS rfl rfl ?_;intro w hS
      refine Aa4 hS rfl rfl ?_;intro w hS
      refine Aa4 hS rfl rfl ?_;intro w hS
      refine Aa5 hS ?_;intro w hS
      replace hS:=ro1 hS
      refine Aa4 hS rfl rfl ?_;intro w hS
      refine Aa4 hS rfl rfl ?_;intro w hS
      refine Aa4 hS rfl rfl ?_;intro w hS
      refine Aa5 hS ?_;intro w hS
      exact hJ9 _ _ ⟨_,_,_,_,_,_,_,_,_,Aa0 h,rfl,hS⟩
     refine Aa5 hS ?_;intro w hS
     refine Aa9 hS ?_;intro r16 w hS
     refine Aa5 hS ?_;intro w hS
     refine Aa9 hS ?_;intro r17 w hS
     refine Aa5 hS ?_;intro w hS
     refine Aa4 hS rfl rfl ?_;intro w hS
     refine Aa4 hS rfl rfl ?_;intro w hS
     refine Aa4 hS rfl rfl ?_;intro w hS
     refine Aa5 hS ?_;intro w hS
     replace hS:=ro1 hS
     refine Aa4 hS rfl rfl ?_;intro w hS
     refine Aa4 hS rfl rfl ?_;intro w hS
     refine Aa4 hS rfl rfl ?_;intro w hS
     refine Aa5 hS ?_;intro w hS
     exact hJ9 _ _ ⟨_,_,_,_,_,_,_,_,_,Aa0 h,rfl,hS⟩
    ·
     refine Aa5 hS ?_;intro w hS
     refine Aa9 hS ?_;intro r18 w hS
     refine ⟨(hS.cel mp4 rfl),?_⟩
     refine ⟨?_,?_⟩
     ·
      refine Aa5 hS ?_;intro w hS
      obtain ⟨t18,ht18,h⟩:=bnd h
      refine Ac1 H hS (vj.mono tl5) ht18 ?_;rintro r19 w rfl hS
      refine ⟨_,_,_,rfl,?_⟩
      refine Aa5 hS ?_;intro w hS
      refine Aa9 hS ?_;intro r20 w hS
      refine Aa5 hS ?_;intro w hS
      replace hS:=ro2 hS
      refine Aa4 hS rfl rfl ?_;intro w hS
      refine Aa4 hS rfl rfl ?_;intro w hS
      refine Aa4 hS rfl rfl ?_;intro w hS
      refine Aa5 hS ?_;intro w hS
      replace hS:=ro1 hS
      refine Aa4 hS rfl rfl ?_;intro w hS
      refine Aa4 hS rfl rfl ?_;intro w hS
      refine Aa4 hS rfl rfl ?_;intro w hS
      refine Aa5 hS ?_;intro w hS
      exact hJ9 _ _ ⟨_,_,_,_,_,_,_,_,_,Aa0 h,rfl,hS⟩
     refine Aa5 hS ?_;intro w hS
     refine Aa9 hS ?_;intro r21 w hS
     refine ⟨(hS.cel mp5 rfl),?_⟩
     refine Aa5 hS ?_;intro w hS
     obtain ⟨t18,ht18,h⟩:=bnd h
     refine Ac1 H hS (vj.mono tl6) ht18 ?_;rintro r22 w rfl hS
     refine ⟨_,_,_,rfl,?_⟩
     refine Aa5 hS ?_;intro w hS
     replace hS:=ro2 hS
     refine Aa4 hS rfl rfl ?_;intro w hS
     refine Aa4 hS rfl rfl ?_;intro w hS
     refine Aa4 hS rfl rfl ?_;intro w hS
     refine Aa5 hS ?_;intro w hS
     replace hS:=ro2 hS
     refine Aa4 hS rfl rfl ?_;intro w hS
     refine Aa4 hS rfl rfl ?_;intro w hS
     refine Aa4 hS rfl rfl ?_;intro w hS
     refine Aa5 hS ?_;intro w hS
     exact hJ9 _ _ ⟨_,_,_,_,_,_,_,_,_,Aa0 h,rfl,hS⟩
    refine Aa5 hS ?_;intro w hS
    refine Aa9 hS ?_;intro r23 w hS
    refine ⟨(hS.cel mp4 rfl),?_⟩
    refine ⟨?_,?_⟩
    ·
     refine Aa5 hS ?_;intro w hS
     obtain ⟨t18,ht18,h⟩:=bnd h
     refine Ac1 H hS (vj.mono tl5) ht18 ?_;rintro r24 w rfl hS
     refine ⟨_,_,_,rfl,?_⟩
     refine Aa5 hS ?_;intro w hS
     refine Aa9 hS ?_;intro r25 w hS
     refine Aa5 hS ?_;intro w hS
     refine Aa4 hS rfl rfl ?_;intro w hS
     refine Aa4 hS rfl rfl ?_;intro w hS
     refine Aa4 hS rfl rfl ?_;intro w hS
     refine Aa5 hS ?_;intro w hS
     replace hS:=ro2 hS
     refine Aa4 hS rfl rfl ?_;intro w hS
     refine Aa4 hS rfl rfl ?_;intro w hS
     refine Aa4 hS rfl rfl ?_;intro w hS
     refine Aa5 hS ?_;intro w hS
     exact hJ9 _ _ ⟨_,_,_,_,_,_,_,_,_,Aa0 h,rfl,hS⟩
    refine Aa5 hS ?_;intro w hS
    refine Aa9 hS ?_;intro r26 w hS
    refine ⟨(hS.cel mp5 rfl),?_⟩
    refine Aa5 hS ?_;intro w hS
    obtain ⟨t18,ht18,h⟩:=bnd h
    refine Ac1 H hS (vj.mono tl6) ht18 ?_;rintro r27 w rfl hS
    refine ⟨_,_,_,rfl,?_⟩
    refine Aa5 hS ?_;intro w hS
    replace hS:=ro1 hS
    refine Aa4 hS rfl rfl ?_;intro w hS
    refine Aa4 hS rfl rfl ?_;intro w hS
    refine Aa4 hS rfl rfl ?_;intro w hS
    refine Aa5 hS ?_;intro w hS
    replace hS:=ro2 hS
    refine Aa4 hS rfl rfl ?_;intro w hS
    refine Aa4 hS rfl rfl ?_;intro w hS
    refine Aa4 hS rfl rfl ?_;intro w hS
    refine Aa5 hS ?_;intro w hS
    exact hJ9 _ _ ⟨_,_,_,_,_,_,_,_,_,Aa0 h,rfl,hS⟩
   ·
    refine Aa5 hS ?_;intro w hS
    refine Aa9 hS ?_;intro r28 w hS
    refine ⟨(hS.cel mp2 rfl),?_⟩
    refine ⟨(hS.cel mp2 rfl),?_⟩
    refine ⟨(hS.cel mp2 rfl),?_⟩
    refine ⟨(hS.cel mp2 rfl),?_⟩
    refine ⟨?_,?_⟩
    ·
     refine Aa5 hS ?_;intro w hS
     obtain ⟨⟨t15,t16,t17⟩,ho15,h⟩:=bnd h
     refine Ae4 H hS (vu.mono tl3) (vv.mono tl3) ho15 ?_;clear hS ho15;rintro r29 r30 w rfl rfl hS
     refine ⟨_,_,_,_,_,_,_,rfl,?_⟩
     refine ⟨(hS.cel mp4 rfl),?_⟩
     refine ⟨?_,?_⟩
     ·
      refine Aa5 hS ?_;intro w hS
      obtain ⟨t18,ht18,h⟩:=bnd h
      refine Ac1 H hS (vj.mono tl5) ht18 ?_;rintro r31 w rfl hS
      refine ⟨_,_,_,rfl,?_⟩
      refine Aa5 hS ?_;intro w hS
      refine Aa9 hS ?_;intro r32 w hS
      refine Aa5 hS ?_;intro w hS
      replace hS:=ro4 hS
      refine Aa4 hS rfl rfl ?_;intro w hS
      refine Aa4 hS rfl rfl ?_;intro w hS
      refine Aa4 hS rfl rfl ?_;intro w hS
      refine Aa5 hS ?_;intro w hS
      replace hS:=ro1 hS
      refine Aa4 hS rfl rfl ?_;intro w hS
      refine Aa4 hS rfl rfl ?_;intro w hS
      refine Aa4 hS rfl rfl ?_;intro w hS
      refine Aa5 hS ?_;intro w hS
      exact hJ9 _ _ ⟨_,_,_,_,_,_,_,_,_,Aa0 h,rfl,hS⟩
     refine Aa5 hS ?_;intro w hS
     refine Aa9 hS ?_;intro r33 w hS
     refine ⟨(hS.cel mp5 rfl),?_⟩
     refine Aa5 hS ?_;intro w hS
     obtain ⟨t18,ht18,h⟩:=bnd h
     refine Ac1 H hS (vj.mono tl6) ht18 ?_;rintro r34 w rfl hS
     refine ⟨_,_,_,rfl,?_⟩
     refine Aa5 hS ?_;intro w hS
     replace hS:=ro4 hS
     refine Aa4 hS rfl rfl ?_;intro w hS
     refine Aa4 hS rfl rfl ?_;intro w hS
     refine Aa4 hS rfl rfl ?_;intro w hS
     refine Aa5 hS ?_;intro w hS
     replace hS:=ro2 hS
     refine Aa4 hS rfl rfl ?_;intro w hS
     refine Aa4 hS rfl rfl ?_;intro w hS
     refine Aa4 hS rfl rfl ?_;intro w hS
     refine Aa5 hS ?_;intro w hS
     exact hJ9 _ _ ⟨_,_,_,_,_,_,_,_,_,Aa0 h,rfl,hS⟩
    refine Aa5 hS ?_;intro w hS
    refine Aa9 hS ?_;intro r35 w hS
    refine ⟨(hS.cel mp3 rfl),?_⟩
    refine ⟨(hS.cel mp3 rfl),?_⟩
    refine ⟨(hS.cel mp3 rfl),?_⟩
    refine ⟨(hS.cel mp3 rfl),?_⟩
    refine Aa5 hS ?_;intro w hS
    obtain ⟨⟨t15,t16,t17⟩,ho15,h⟩:=bnd h
    refine Ae4 H hS (vu.mono tl4) (vv.mono tl4) ho15 ?_;clear hS ho15;rintro r36 r37 w rfl rfl hS
    refine ⟨_,_,_,_,_,_,_,rfl,?_⟩
    refine ⟨(hS.cel mp5 rfl),?_⟩
    refine Aa5 hS ?_;intro w hS
    obtain ⟨t18,ht18,h⟩:=bnd h
    refine Ac1 H hS (vj.mono tl6) ht18 ?_;rintro r38 w rfl hS
    refine ⟨_,_,_,rfl,?_⟩
    refine Aa5 hS ?_;intro w hS
    replace hS:=ro4 hS
    refine Aa4 hS rfl rfl ?_;intro w hS
    refine Aa4 hS rfl rfl ?_;intro w hS
    refine Aa4 hS rfl rfl ?_;intro w hS
    refine Aa5 hS ?_;intro w hS
    replace hS:=ro4 hS
    refine Aa4 hS rfl rfl ?_;intro w hS
    refine Aa4 hS rfl rfl ?_;intro w hS
    refine Aa4 hS rfl rfl ?_;intro w hS
    refine Aa5 hS ?_;intro w hS
    exact hJ9 _ _ ⟨_,_,_,_,_,_,_,_,_,Aa0 h,rfl,hS⟩
   refine Aa5 hS ?_;intro w hS
   refine Aa9 hS ?_;intro r39 w hS
   refine ⟨(hS.cel mp2 rfl),?_⟩
   refine ⟨(hS.cel mp2 rfl),?_⟩
   refine ⟨(hS.cel mp2 rfl),?_⟩
   refine ⟨(hS.cel mp2 rfl),?_⟩
   refine ⟨?_,?_⟩
   ·
    refine Aa5 hS ?_;intro w hS
    obtain ⟨⟨t15,t16,t17⟩,ho15,h⟩:=bnd h
    refine Ae4 H hS (vu.mono tl3) (vv.mono tl3) ho15 ?_;clear hS ho15;rintro r40 r41 w rfl rfl hS
    refine ⟨_,_,_,_,_,_,_,rfl,?_⟩
    refine ⟨(hS.cel mp4 rfl),?_⟩
    refine ⟨?_,?_⟩
    ·
     refine Aa5 hS ?_;intro w hS
     obtain ⟨t18,ht18,h⟩:=bnd h
     refine Ac1 H hS (vj.mono tl5) ht18 ?_;rintro r42 w rfl hS
     refine ⟨_,_,_,rfl,?_⟩
     refine Aa5 hS ?_;intro w hS
     refine Aa9 hS ?_;intro r43 w hS
     refine Aa5 hS ?_;intro w hS
     refine Aa4 hS rfl rfl ?_;intro w hS
     refine Aa4 hS rfl rfl ?_;intro w hS
     refine Aa4 hS rfl rfl ?_;intro w hS
     refine Aa5 hS ?_;intro w hS
     replace hS:=ro4 hS
     refine Aa4 hS rfl rfl ?_;intro w hS
     refine Aa4 hS rfl rfl ?_;intro w hS
     refine Aa4 hS rfl rfl ?_;intro w hS
     refine Aa5 hS ?_;intro w hS
     exact hJ9 _ _ ⟨_,_,_,_,_,_,_,_,_,Aa0 h,rfl,hS⟩
    refine Aa5 hS ?_;intro w hS
    refine Aa9 hS ?_;intro r44 w hS
    refine ⟨(hS.cel mp5 rfl),?_⟩
    refine Aa5 hS ?_;intro w hS
    obtain ⟨t18,ht18,h⟩:=bnd h
    refine Ac1 H hS (vj.mono tl6) ht18 ?_;rintro r45 w rfl hS
    refine ⟨_,_,_,rfl,?_⟩
    refine Aa5 hS ?_;intro w hS
    replace hS:=ro1 hS
    refine Aa4 hS rfl rfl ?_;intro w hS
    refine Aa4 hS rfl rfl ?_;intro w hS
    refine Aa4 hS rfl rfl ?_;intro w hS
    refine Aa5 hS ?_;intro w hS
    replace hS:=ro4 hS
    refine Aa4 hS rfl rfl ?_;intro w hS
    refine Aa4 hS rfl rfl ?_;intro w hS
    refine Aa4 hS rfl rfl ?_;intro w hS
    refine Aa5 hS ?_;intro w hS
    exact hJ9 _ _ ⟨_,_,_,_,_,_,_,_,_,Aa0 h,rfl,hS⟩
   refine Aa5 hS ?_;intro w hS
   refine Aa9 hS ?_;intro r46 w hS
   refine ⟨(hS.cel mp3 rfl),?_⟩
   refine ⟨(hS.cel mp3 rfl),?_⟩
   refine ⟨(hS.cel mp3 rfl),?_⟩
   refine ⟨(hS.cel mp3 rfl),?_⟩
   refine Aa5 hS ?_;intro w hS
   obtain ⟨⟨t15,t16,t17⟩,ho15,h⟩:=bnd h
   refine Ae4 H hS (vu.mono tl4) (vv.mono tl4) ho15 ?_;clear hS ho15;rintro r47 r48 w rfl rfl hS
   refine ⟨_,_,_,_,_,_,_,rfl,?_⟩
   refine ⟨(hS.cel mp5 rfl),?_⟩
   refine Aa5 hS ?_;intro w hS
   obtain ⟨t18,ht18,h⟩:=bnd h
   refine Ac1 H hS (vj.mono tl6) ht18 ?_;rintro r49 w rfl hS
   refine ⟨_,_,_,rfl,?_⟩
   refine Aa5 hS ?_;intro w hS
   replace hS:=ro3 hS
   refine Aa4 hS rfl rfl ?_;intro w hS
   refine Aa4 hS rfl rfl ?_;intro w hS
   refine Aa4 hS rfl rfl ?_;intro w hS
   refine Aa5 hS ?_;intro w hS
   replace hS:=ro4 hS
   refine Aa4 hS rfl rfl ?_;intro w hS
   refine Aa4 hS rfl rfl ?_;intro w hS
   refine Aa4 hS rfl rfl ?_;intro w hS
   refine Aa5 hS ?_;intro w hS
   exact hJ9 _ _ ⟨_,_,_,_,_,_,_,_,_,Aa0 h,rfl,hS⟩
  ·
   refine Aa5 hS ?_;intro w hS
   refine Aa9 hS ?_;intro r50 w hS
   refine ⟨(hS.cel mp1 rfl),?_⟩
   refine ⟨(hS.cel mp1 rfl),?_⟩
   refine ⟨(hS.cel mp1 rfl),?_⟩
   refine ⟨(hS.cel mp1 rfl),?_⟩
   refine ⟨(hS.cel mp1 rfl),?_⟩
   refine ⟨(hS.cel mp1 rfl),?_⟩
   refine ⟨(hS.cel mp1 rfl),?_⟩
   refine ⟨?_,?_⟩
   ·
    refine Aa5 hS ?_;intro w hS
    obtain ⟨⟨t12,t13,t14⟩,ho12,h⟩:=bnd h
    refine Aq6 H hS (qp.mono tl2) ho12 ?_;clear hS ho12;rintro r51 w rfl hS
    refine ⟨_,_,_,_,_,rfl,?_⟩
    refine ⟨(hS.cel mp2 rfl),?_⟩
    refine ⟨(hS.cel mp2 rfl),?_⟩
    refine ⟨(hS.cel mp2 rfl),?_⟩
    refine ⟨(hS.cel mp2 rfl),?_⟩
    refine ⟨?_,?_⟩
    ·
     refine Aa5 hS ?_;intro w hS
     obtain ⟨⟨t15,t16,t17⟩,ho15,h⟩:=bnd h
     refine Ae4 H hS (vu.mono tl3) (vv.mono tl3) ho15 ?_;clear hS ho15;rintro r52 r53 w rfl rfl hS
     refine ⟨_,_,_,_,_,_,_,rfl,?_⟩
     refine ⟨(hS.cel mp4 rfl),?_⟩
     refine ⟨?_,?_⟩
     ·
      refine Aa5 hS ?_;intro w hS
      obtain ⟨t18,ht18,h⟩:=bnd h
      refine Ac1 H hS (vj.mono tl5) ht18 ?_;rintro r54 w rfl hS
      refine ⟨_,_,_,rfl,?_⟩
      refine Aa5 hS ?_;intro w hS
      refine Aa9 hS ?_;intro r55 w hS
      refine Aa5 hS ?_;intro w hS
      replace hS:=ro5 hS
      refine Aa4 hS rfl rfl ?_;intro w hS
      refine Aa4 hS rfl rfl ?_;intro w hS
      refine Aa4 hS rfl rfl ?_;intro w hS
      refine Aa5 hS ?_;intro w hS
      replace hS:=ro1 hS
      refine Aa4 hS rfl rfl ?_;intro w hS
      refine Aa4 hS rfl rfl ?_;intro w hS
      refine Aa4 hS rfl rfl ?_;intro w hS
      refine Aa5 hS ?_;intro w hS
      exact hJ9 _ _ ⟨_,_,_,_,_,_,_,_,_,Aa0 h,rfl,hS⟩
     refine Aa5 hS ?_;intro w hS
     refine Aa9 hS ?_;intro r56 w hS
     refine ⟨(hS.cel mp5 rfl),?_⟩
     refine Aa5 hS ?_;intro w hS
     obtain ⟨t18,ht18,h⟩:=bnd h
     refine Ac1 H hS (vj.mono tl6) ht18 ?_;rintro r57 w rfl hS
     refine ⟨_,_,_,rfl,?_⟩
     refine Aa5 hS ?_;intro w hS
     replace hS:=ro5 hS
     refine Aa4 hS rfl rfl ?_;intro w hS
     refine Aa4 hS rfl rfl ?_;intro w hS
     refine Aa4 hS rfl rfl ?_;intro w hS
     refine Aa5 hS ?_;intro w hS
     replace hS:=ro2 hS
     refine Aa4 hS rfl rfl ?_;intro w hS
     refine Aa4 hS rfl rfl ?_;intro w hS
     refine Aa4 hS rfl rfl ?_;intro w hS
     refine Aa5 hS ?_;intro w hS
     exact hJ9 _ _ ⟨_,_,_,_,_,_,_,_,_,Aa0 h,rfl,hS⟩
    refine Aa5 hS ?_;intro w hS
    refine Aa9 hS ?_;intro r58 w hS
    refine ⟨(hS.cel mp3 rfl),?_⟩
    refine ⟨(hS.cel mp3 rfl),?_⟩
    refine ⟨(hS.cel mp3 rfl),?_⟩
    refine ⟨(hS.cel mp3 rfl),?_⟩
    refine Aa5 hS ?_;intro w hS
    obtain ⟨⟨t15,t16,t17⟩,ho15,h⟩:=bnd h
    refine Ae4 H hS (vu.mono tl4) (vv.mono tl4) ho15 ?_;clear hS ho15;rintro r59 r60 w rfl rfl hS
    refine ⟨_,_,_,_,_,_,_,rfl,?_⟩
    refine ⟨(hS.cel mp5 rfl),?_⟩
    refine Aa5 hS ?_;intro w hS
    obtain ⟨t18,ht18,h⟩:=bnd h
    refine Ac1 H hS (vj.mono tl6) ht18 ?_;rintro r61 w rfl hS
    refine ⟨_,_,_,rfl,?_⟩
    refine Aa5 hS ?_;intro w hS
    replace hS:=ro5 hS
    refine Aa4 hS rfl rfl ?_;intro w hS
    refine Aa4 hS rfl rfl ?_;intro w hS
    refine Aa4 hS rfl rfl ?_;intro w hS
    refine Aa5 hS ?_;intro w hS
    replace hS:=ro4 hS
    refine Aa4 hS rfl rfl ?_;intro w hS
    refine Aa4 hS rfl rfl ?_;intro w hS
    refine Aa4 hS rfl rfl ?_;intro w hS
    refine Aa5 hS ?_;intro w hS
    exact hJ9 _ _ ⟨_,_,_,_,_,_,_,_,_,Aa0 h,rfl,hS⟩
   refine Aa5 hS ?_;intro w hS
   refine Aa9 hS ?_;intro r62 w hS
   refine ⟨(hS.cel mp2 rfl),?_⟩
   refine ⟨(hS.cel mp2 rfl),?_⟩
   refine ⟨(hS.cel mp2 rfl),?_⟩
   refine ⟨(hS.cel mp2 rfl),?_⟩
   refine ⟨(hS.cel mp2 rfl),?_⟩
   refine ⟨(hS.cel mp2 rfl),?_⟩
   refine ⟨(hS.cel mp2 rfl),?_⟩
   refine Aa5 hS ?_;intro w hS
   obtain ⟨⟨t12,t13,t14⟩,ho12,h⟩:=bnd h
   refine Aq6 H hS (qp.mono tl3) ho12 ?_;clear hS ho12;rintro r63 w rfl hS
   refine ⟨_,_,_,_,_,rfl,?_⟩
   refine ⟨(hS.cel mp3 rfl),?_⟩
   refine ⟨(hS.cel mp3 rfl),?_⟩
   refine ⟨(hS.cel mp3 rfl),?_⟩
   refine ⟨(hS.cel mp3 rfl),?_⟩
   refine Aa5 hS ?_;intro w hS
   obtain ⟨⟨t15,t16,t17⟩,ho15,h⟩:=bnd h
   refine Ae4 H hS (vu.mono tl4) (vv.mono tl4) ho15 ?_;clear hS ho15;rintro r64 r65 w rfl rfl hS
   refine ⟨_,_,_,_,_,_,_,rfl,?_⟩
   refine ⟨(hS.cel mp5 rfl),?_⟩
   refine Aa5 hS ?_;intro w hS
   obtain ⟨t18,ht18,h⟩:=bnd h
   refine Ac1 H hS (vj.mono tl6) ht18 ?_;rintro r66 w rfl hS
   refine ⟨_,_,_,rfl,?_⟩
   refine Aa5 hS ?_;intro w hS
   replace hS:=ro5 hS
   refine Aa4 hS rfl rfl ?_;intro w hS
   refine Aa4 hS rfl rfl ?_;intro w hS
   refine Aa4 hS rfl rfl ?_;intro w hS
   refine Aa5 hS ?_;intro w hS
   replace hS:=ro5 hS
   refine Aa4 hS rfl rfl ?_;intro w hS
   refine Aa4 hS rfl rfl ?_;intro w hS
   refine Aa4 hS rfl rfl ?_;intro w hS
   refine Aa5 hS ?_;intro w hS
   exact hJ9 _ _ ⟨_,_,_,_,_,_,_,_,_,Aa0 h,rfl,hS⟩
  refine Aa5 hS ?_;intro w hS
  refine Aa9 hS ?_;intro r67 w hS
  refine ⟨(hS.cel mp1 rfl),?_⟩
  refine ⟨(hS.cel mp1 rfl),?_⟩
  refine ⟨(hS.cel mp1 rfl),?_⟩
  refine ⟨(hS.cel mp1 rfl),?_⟩
  refine ⟨(hS.cel mp1 rfl),?_⟩
  refine ⟨(hS.cel mp1 rfl),?_⟩
  refine ⟨(hS.cel mp1 rfl),?_⟩
  refine ⟨?_,?_⟩
  ·
   refine Aa5 hS ?_;intro w hS
   obtain ⟨⟨t12,t13,t14⟩,ho12,h⟩:=bnd h
   refine Aq6 H hS (qp.mono tl2) ho12 ?_;clear hS ho12;rintro r68 w rfl hS
   refine ⟨_,_,_,_,_,rfl,?_⟩
   refine ⟨(hS.cel mp2 rfl),?_⟩
   refine ⟨(hS.cel mp2 rfl),?_⟩
   refine ⟨(hS.cel mp2 rfl),?_⟩
   refine ⟨(hS.cel mp2 rfl),?_⟩
   refine ⟨?_,?_⟩
   ·
    refine Aa5 hS ?_;intro w hS
    obtain ⟨⟨t15,t16,t17⟩,ho15,h⟩:=bnd h
    refine Ae4 H hS (vu.mono tl3) (vv.mono tl3) ho15 ?_;clear hS ho15;rintro r69 r70 w rfl rfl hS
    refine ⟨_,_,_,_,_,_,_,rfl,?_⟩
    refine ⟨(hS.cel mp4 rfl),?_⟩
    refine ⟨?_,?_⟩
    ·
     refine Aa5 hS ?_;intro w hS
     obtain ⟨t18,ht18,h⟩:=bnd h
     refine Ac1 H hS (vj.mono tl5) ht18 ?_;rintro r71 w rfl hS
     refine ⟨_,_,_,rfl,?_⟩
     refine Aa5 hS ?_;intro w hS
     refine Aa9 hS ?_;intro r72 w hS
     refine Aa5 hS ?_;intro w hS
     refine Aa4 hS rfl rfl ?_;intro w hS
     refine Aa4 hS rfl rfl ?_;intro w hS
     refine Aa4 hS rfl rfl ?_;intro w hS
     refine Aa5 hS ?_;intro w hS
     replace hS:=ro5 hS
     refine Aa4 hS rfl rfl ?_;intro w hS
     refine Aa4 hS rfl rfl ?_;intro w hS
     refine Aa4 hS rfl rfl ?_;intro w hS
     refine Aa5 hS ?_;intro w hS
     exact hJ9 _ _ ⟨_,_,_,_,_,_,_,_,_,Aa0 h,rfl,hS⟩
    refine Aa5 hS ?_;intro w hS
    refine Aa9 hS ?_;intro r73 w hS
    refine ⟨(hS.cel mp5 rfl),?_⟩
    refine Aa5 hS ?_;intro w hS
    obtain ⟨t18,ht18,h⟩:=bnd h
    refine Ac1 H hS (vj.mono tl6) ht18 ?_;rintro r74 w rfl hS
    refine ⟨_,_,_,rfl,?_⟩
    refine Aa5 hS ?_;intro w hS
    replace hS:=ro1 hS
    refine Aa4 hS rfl rfl ?_;intro w hS
    refine Aa4 hS rfl rfl ?_;intro w hS
    refine Aa4 hS rfl rfl ?_;intro w hS
    refine Aa5 hS ?_;intro w hS
    replace hS:=ro5 hS
    refine Aa4 hS rfl rfl ?_;intro w hS
    refine Aa4 hS rfl rfl ?_;intro w hS
    refine Aa4 hS rfl rfl ?_;intro w hS
    refine Aa5 hS ?_;intro w hS
    exact hJ9 _ _ ⟨_,_,_,_,_,_,_,_,_,Aa0 h,rfl,hS⟩
   refine Aa5 hS ?_;intro w hS
   refine Aa9 hS ?_;intro r75 w hS
   refine ⟨(hS.cel mp3 rfl),?_⟩
   refine ⟨(hS.cel mp3 rfl),?_⟩
   refine ⟨(hS.cel mp3 rfl),?_⟩
   refine ⟨(hS.cel mp3 rfl),?_⟩
   refine Aa5 hS ?_;intro w hS
   obtain ⟨⟨t15,t16,t17⟩,ho15,h⟩:=bnd h
   refine Ae4 H hS (vu.mono tl4) (vv.mono tl4) ho15 ?_;clear hS ho15;rintro r76 r77 w rfl rfl hS
   refine ⟨_,_,_,_,_,_,_,rfl,?_⟩
   refine ⟨(hS.cel mp5 rfl),?_⟩
   refine Aa5 hS ?_;intro w hS
   obtain ⟨t18,ht18,h⟩:=bnd h
   refine Ac1 H hS (vj.mono tl6) ht18 ?_;rintro r78 w rfl hS
   refine ⟨_,_,_,rfl,?_⟩
   refine Aa5 hS ?_;intro w hS
   replace hS:=ro3 hS
   refine Aa4 hS rfl rfl ?_;intro w hS
   refine Aa4 hS rfl rfl ?_;intro w hS
   refine Aa4 hS rfl rfl ?_;intro w hS
   refine Aa5 hS ?_;intro w hS
   replace hS:=ro5 hS
   refine Aa4 hS rfl rfl ?_;intro w hS
   refine Aa4 hS rfl rfl ?_;intro w hS
   refine Aa4 hS rfl rfl ?_;intro w hS
   refine Aa5 hS ?_;intro w hS
   exact hJ9 _ _ ⟨_,_,_,_,_,_,_,_,_,Aa0 h,rfl,hS⟩
  refine Aa5 hS ?_;intro w hS
  refine Aa9 hS ?_;intro r79 w hS
  refine ⟨(hS.cel mp2 rfl),?_⟩
  refine ⟨(hS.cel mp2 rfl),?_⟩
  refine ⟨(hS.cel mp2 rfl),?_⟩
  refine ⟨(hS.cel mp2 rfl),?_⟩
  refine ⟨(hS.cel mp2 rfl),?_⟩
  refine ⟨(hS.cel mp2 rfl),?_⟩
  refine ⟨(hS.cel mp2 rfl),?_⟩
  refine Aa5 hS ?_;intro w hS
  obtain ⟨⟨t12,t13,t14⟩,ho12,h⟩:=bnd h
  refine Aq6 H hS (qp.mono tl3) ho12 ?_;clear hS ho12;rintro r80 w rfl hS
  refine ⟨_,_,_,_,_,rfl,?_⟩
  refine ⟨(hS.cel mp3 rfl),?_⟩
  refine ⟨(hS.cel mp3 rfl),?_⟩
  refine ⟨(hS.cel mp3 rfl),?_⟩
  refine ⟨(hS.cel mp3 rfl),?_⟩
  refine Aa5 hS ?_;intro w hS
  obtain ⟨⟨t15,t16,t17⟩,ho15,h⟩:=bnd h
  refine Ae4 H hS (vu.mono tl4) (vv.mono tl4) ho15 ?_;clear hS ho15;rintro r81 r82 w rfl rfl hS
  refine ⟨_,_,_,_,_,_,_,rfl,?_⟩
  refine ⟨(hS.cel mp5 rfl),?_⟩
  refine Aa5 hS ?_;intro w hS
  obtain ⟨t18,ht18,h⟩:=bnd h
  refine Ac1 H hS (vj.mono tl6) ht18 ?_;rintro r83 w rfl hS
  refine ⟨_,_,_,rfl,?_⟩
  refine Aa5 hS ?_;intro w hS
  replace hS:=ro4 hS
  refine Aa4 hS rfl rfl ?_;intro w hS
  refine Aa4 hS rfl rfl ?_;intro w hS
  refine Aa4 hS rfl rfl ?_;intro w hS
  refine Aa5 hS ?_;intro w hS
  replace hS:=ro5 hS
  refine Aa4 hS rfl rfl ?_;intro w hS
  refine Aa4 hS rfl rfl ?_;intro w hS
  refine Aa4 hS rfl rfl ?_;intro w hS
  refine Aa5 hS ?_;intro w hS
  exact hJ9 _ _ ⟨_,_,_,_,_,_,_,_,_,Aa0 h,rfl,hS⟩
 clear h9 hS
 rintro s w ⟨r3,t5,r4,t6,t7,r5,r6,r7,r8,rfl,rfl,hS⟩
 have h:=c9
 clear c9
 try dsimp only
 refine Ad6 ?_
 refine ⟨_,hS.cel mp1 rfl,_,hS.cel mp1 rfl,_,_,_,hS.cel mp1 rfl,?_⟩
 refine Ad6 ?_
 refine ⟨_,hS.cel mp0 rfl,_,_,_,hS.cel mp0 rfl,_,_,_,hS.cel mp0 rfl,?_⟩
 obtain ⟨⟨t19,t20,t21⟩,ho19,h⟩:=bnd h
 refine Br0 H hS (Ent.lent (Ent.sl mp5) rfl rfl) (Ent.lent (Ent.sl mp3) rfl rfl) (Ent.lent (Ent.sl mp4) rfl rfl) (Ent.lent (Ent.sl mp2) rfl rfl) (hG.mono tl7) ho19 ?_;clear hS ho19;rintro a84 m84 c84 bh w rfl hS
 refine ⟨_,_,_,_,_,rfl,?_⟩
 refine ⟨_,hS.cel mp7 rfl,_,hS.cel mp7 rfl,_,_,_,hS.cel mp7 rfl,_,hS.cel mp7 rfl,_,_,_,hS.cel mp7 rfl,_,_,_,hS.cel mp7 rfl,_,_,_,hS.cel mp7 rfl,?_⟩
 obtain ⟨⟨t22,t23,t24⟩,ho22,h⟩:=bnd h
 refine Es3 H hS (qp.mono tl8) (vu.mono tl8) (vv.mono tl8) (vj.mono tl8) ho22 ?_;clear hS ho22;rintro a85 m85 c85 bi w rfl hS
 refine ⟨_,_,_,_,_,rfl,?_⟩
 refine Ad6 ?_
 refine ⟨_,hS.cel mp3 rfl,_,hS.cel mp3 rfl,_,_,_,hS.cel mp3 rfl,_,hS.cel mp8 rfl,_,hS.cel mp8 rfl,_,_,_,hS.cel mp8 rfl,?_⟩
 obtain ⟨t25,ht25,h⟩:=bnd h
 refine Dh3 H hS (Ent.sl mp7) (qp.mono tl9) ht25 ?_;rintro w hS
 refine ⟨_,rfl,?_⟩
 refine Aa2 h ?_ ?_<;>intro hc h
 ·
  refine Ad6 ?_
  refine ⟨_,hS.cel mp2 rfl,_,_,_,hS.cel mp2 rfl,_,_,_,hS.cel mp2 rfl,_,hS.cel mp8 rfl,_,_,_,hS.cel mp8 rfl,_,_,_,hS.cel mp8 rfl,?_⟩
  obtain ⟨t26,ht26,h⟩:=bnd h
  refine Dk5 H hS (Ent.sl mp5) (Ent.sl mp6) (vu.mono tl9) (vv.mono tl9) ht26 ?_;rintro w hS
  refine ⟨_,rfl,?_⟩
  refine Aa2 h ?_ ?_<;>intro hc h
  ·
   refine ⟨_,_,_,hS.cel mp8 rfl,?_⟩
   obtain ⟨t27,ht27,h⟩:=bnd h
   refine Ba6 H hS (Ent.sl mp4) (vj.mono tl9) ht27 ?_;rintro w hS
   refine ⟨_,rfl,?_⟩
   refine Aa2 h ?_ ?_<;>intro hc h
   ·
    refine Aa2 h ?_ ?_<;>intro hc h
    ·
     refine Aa2 h ?_ ?_<;>intro hc h
     ·
      obtain ⟨t28,ht28,h⟩:=bnd h
      refine Ba5 H hS (Ent.sl mp1) (Ent.sl mp0) ht28 ?_;rintro w hS
      refine ⟨_,rfl,?_⟩
      cases Aa0 h
      exact hK _ (hS.pick (A:=[_,_,_,_,_,_,_,_,_]) [] rfl)
     cases Aa0 h
     exact hK _ (hS.pick (A:=[_,_,_,_,_,_,_,_,_]) [] rfl)
    cases Aa0 h
    exact hK _ (hS.pick (A:=[_,_,_,_,_,_,_,_,_]) [] rfl)
   cases Aa0 h
   exact hK _ (hS.pick (A:=[_,_,_,_,_,_,_,_,_]) [] rfl)
  cases Aa0 h
  exact hK _ (hS.pick (A:=[_,_,_,_,_,_,_,_,_]) [] rfl)
 cases Aa0 h
 exact hK _ (hS.pick (A:=[_,_,_,_,_,_,_,_,_]) [] rfl)
end Go.Eng
