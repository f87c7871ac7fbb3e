/-
 Each function comes to what its function of plain Lean says, printed by a program of the session. No condition.
-/
import Derived.Test.YtlnelldekejadaaTp
import Derived.Test.YtlnelldekejadaaSh
import Derived.Test.YtlnelldekejadaaTw5
import Derived.Test.YtlnelldekejadaaBgW
import Derived.Test.YtlnelldekejadaaBitC
set_option linter.all false
set_option maxRecDepth 100000
set_option maxHeartbeats 4000000
namespace Go.Eng
open Go
open Go.IntKind (i64 u64 u32 u8)
variable {N:Nums} {P:Program} (H:AllOk N P) {w0 w:World} {L:List It} {K:KV}
include H
theorem wk_w16_great {qe qf qg qo qp} {H0_2:List Hd} {l0_2:List Dy} {u0} (hS:Ho w0 w L) (qy:Ent L (rdA (dyC l0_2 H0_2) qg (qo*3) (qp*3))) (gq0_2:AllD L l0_2 H0_2) (h:T_w16_great qe qf l0_2=some u0) (hK:∀ w1,Ho w0 w1 L→K (.bool u0) w1):CallsX P N.f_w16_great #[.agg #[.int .i64 qe,.int .i64 qf,.slice qg qo qp]] w K:=by
 refine H.w16_great qe qf qg qo qp w _ ?_
 unfold S_w16_great
 unfold T_w16_great at h
 try dsimp only
 refine newM_s hS ?_;intro r1 w hS
 obtain ⟨o2,h2,c2⟩:=bnd h
 refine cutM_i (fun s w=>∃ (t1:Int),t1=o2∧s=(t1,())∧Ho w0 w ((cl r1 [.int .i64 qe,.int .i64 qf,.slice qg qo qp] N.t_Dyads)::L)) (fun J2 hJ2=>?_) ?_
 ·
  have h:=h2
  clear h2
  refine iter_sim (fun s w t=>∃ (t2:Int) (t3:Int),(t2,t3)=t∧s=(t2,t3,())∧Ho w0 w ((cl r1 [.int .i64 qe,.int .i64 qf,.slice qg qo qp] N.t_Dyads)::L)) ?_ h ⟨_,_,rfl,rfl,hS⟩
  clear h hS
  rintro s w t X q ⟨t2,t3,rfl,rfl,hS⟩ h hX hO
  unfold T_w16_great_b2 at h
  try dsimp only
  refine ⟨_,_,_,hS.cel mp0 rfl,?_⟩
  obtain ⟨t4,ht4,h⟩:=bnd h
  obtain rfl:=lenD ht4 gq0_2.len ((qy.mono tl1).now (fun _ h=>h) hS)
  refine cond_s h ?_ ?_<;>intro hc h
  ·
   refine cond_s h ?_ ?_<;>intro hc h
   ·
    refine ⟨_,_,_,hS.cel mp0 rfl,?_⟩
    obtain ⟨t5,ht5,h⟩:=bnd h
    obtain ⟨gq3,q3x,q3k,vo,q3r,q3e⟩:=AllD.atE gq0_2 ht5
    refine idxD_s gq0_2.len ((qy.mono tl1).now (fun _ h=>h) hS) vo q3r ?_;intro b4 hb4
    refine ⟨_,_,_,(rdD1 ((qy.mono tl1).now (fun _ h=>h) hS) hb4 q3k q3x),?_⟩
    obtain ⟨t6,ht6,h⟩:=bnd h
    obtain rfl:=lenE ht6 ((q3e.mono tl1).now (fun _ h=>h) hS)
    obtain rfl:=some_inj h
    exact hX _ rfl _ _ ⟨_,_,rfl,rfl,hS⟩
   obtain rfl:=some_inj h
   have h:=congrArg some (hO _ rfl)
   exact hJ2 _ _ ⟨_,some_inj h,rfl,hS⟩
  obtain rfl:=some_inj h
  have h:=congrArg some (hO _ rfl)
  exact hJ2 _ _ ⟨_,some_inj h,rfl,hS⟩
 clear h2 hS
 rintro s w ⟨t1,rfl,rfl,hS⟩
 have h:=c2
 clear c2
 try dsimp only
 refine ⟨_,hS.cel mp0 rfl,?_⟩
 refine cond_s h ?_ ?_<;>intro hc h
 ·
  refine ⟨_,hS.cel mp0 rfl,?_⟩
  refine cond_s h ?_ ?_<;>intro hc h
  ·
   cases some_inj h
   exact hK _ (hS.pick (A:=[_]) [] rfl)
  cases some_inj h
  exact hK _ (hS.pick (A:=[_]) [] rfl)
 cases some_inj h
 exact hK _ (hS.pick (A:=[_]) [] rfl)
theorem wk_r02_NatTrim {q0 qh qk l0 u0} (hS:Ho w0 w L) (qt:EU L l0 q0 qh qk) (h:T_r02_NatTrim l0=some u0) (hK:∀ (a0:OA) (n0 c0:Nat) (w1:World),Ho w0 w1 ((sl a0 n0 c0 (List.map (Value.int .u64) u0) N.t_uint64)::L)→K (.slice a0 n0 c0) w1):CallsX P N.f_r02_NatTrim #[.slice q0 qh qk] w K:=by
 refine H.r02_NatTrim q0 qh qk w _ ?_
 unfold S_r02_NatTrim
 unfold T_r02_NatTrim at h
 try dsimp only
 obtain ⟨t1,ht1,h⟩:=bnd h
 obtain rfl:=lenE ht1 (qt.now (fun _ h=>h) hS)
 obtain ⟨o1,h1,c1⟩:=bnd h
 refine cutM_i (fun s w=>∃ (t2:Int),t2=o1∧s=(t2,())∧Ho w0 w L) (fun J1 hJ1=>?_) ?_
 ·
  have h:=h1
  clear h1
  refine iter_sim (fun s w t=>∃ (t3:Int),t3=t∧s=(t3,())∧Ho w0 w L) ?_ h ⟨_,rfl,rfl,hS⟩
  clear h hS
  rintro s w t X q ⟨t3,rfl,rfl,hS⟩ h hX hO
  unfold T_r02_NatTrim_b2 at h
  try dsimp only
  refine cond_s h ?_ ?_<;>intro hc h
  ·
   obtain ⟨t4,ht4,h⟩:=bnd h
   obtain ⟨q2x,vj,q2r⟩:=atE ht4
   refine idx_s (qt.now (fun _ h=>h) hS) q2x vj q2r ?_;intro b3 hb3
   refine ⟨_,rd_get (qt.now (fun _ h=>h) hS) hb3 q2x,?_⟩
   refine cond_s h ?_ ?_<;>intro hc h
   ·
    obtain rfl:=some_inj h
    exact hX _ rfl _ _ ⟨_,rfl,rfl,hS⟩
   obtain rfl:=some_inj h
   have h:=congrArg some (hO _ rfl)
   exact hJ1 _ _ ⟨_,some_inj h,rfl,hS⟩
  obtain rfl:=some_inj h
  have h:=congrArg some (hO _ rfl)
  exact hJ1 _ _ ⟨_,some_inj h,rfl,hS⟩
 clear h1 hS
 rintro s w ⟨t2,rfl,rfl,hS⟩
 have h:=c1
 clear c1
 try dsimp only
 obtain ⟨t5,ht5,h⟩:=bnd h
 obtain ⟨rfl,jt,yh,yi⟩:=subE ht5
 have yl:=(qt.now (fun _ h=>h) hS).hiCap yi
 refine ⟨yh,yl,?_⟩
 obtain ⟨t6,ht6,h⟩:=bnd h
 obtain ⟨rfl,kt6⟩:=appE ht6
 replace hS:=hS.none (α:=Int) (enc:=(Value.int .u64)) (t:=N.t_uint64)
 refine app_s hS kt6 ((Ent.upto (qt.mono tl1) yh yi).now (fun _ h=>h) hS) (fun _=>rfl) rfl ?_;clear hS kt6;intro a5 c5 w hS
 cases some_inj h
 exact hK _ _ _ _ hS
theorem wk_r02_NatOf {q0 u0} (hS:Ho w0 w L)  (h:T_r02_NatOf q0=some u0) (hK:∀ (a0:OA) (n0 c0:Nat) (w1:World),Ho w0 w1 ((sl a0 n0 c0 (List.map (Value.int .u64) u0) N.t_uint64)::L)→K (.slice a0 n0 c0) w1):CallsX P N.f_r02_NatOf #[.int .u64 q0] w K:=by
 refine H.r02_NatOf q0 w _ ?_
 unfold S_r02_NatOf
 unfold T_r02_NatOf at h
 try dsimp only
 obtain ⟨t1,ht1,h⟩:=bnd h
 obtain rfl:([q0]:List Int)=t1:=some_inj ht1
 refine lit_s (ks:=[q0]) (enc:=(Value.int .u64)) (m:=1) hS rfl rfl ?_;intro r1 w hS
 obtain ⟨t2,ht2,h⟩:=bnd h
 refine wk_r02_NatTrim H hS (Ent.sl mp0) ht2 ?_;rintro a2 m2 c2 w hS
 refine ⟨_,_,_,rfl,?_⟩
 cases some_inj h
 exact hK _ _ _ _ (hS.pick (A:=[_,_]) [0] rfl)
theorem wk_r02_Whole {q0 u0 u1 u2} (hS:Ho w0 w L)  (h:T_r02_Whole q0=some (u0,u1,u2)) (hK:∀ (a1:OA) (n1 c1:Nat) (w1:World),Ho w0 w1 ((sl a1 n1 c1 (List.map (Value.int .u64) u1) N.t_uint64)::L)→K (.agg #[.bool u0,.slice a1 n1 c1,.int .i64 u2]) w1):CallsX P N.f_r02_Whole #[.int .i64 q0] w K:=by
 refine H.r02_Whole q0 w _ ?_
 unfold S_r02_Whole
 unfold T_r02_Whole at h
 try dsimp only
 refine newM_s hS ?_;intro r1 w hS
 refine newM_s hS ?_;intro r2 w hS
 refine stc_s hS rfl rfl ?_;intro w hS
 refine stc_s hS rfl rfl ?_;intro w hS
 refine stc_s hS rfl rfl ?_;intro w hS
 obtain ⟨o3,h3,c3⟩:=bnd h
 refine cutM_i (fun s w=>∃ (t1:Int),t1=o3∧s=(t1,())∧Ho w0 w ((cl r2 [.bool (decide (q0<0)),.slice none 0 0,.int .i64 0] N.t_r02_Num)::(cl r1 [.bool false,.slice none 0 0,.int .i64 0] N.t_r02_Num)::L)) (fun J3 hJ3=>?_) ?_
 ·
  have h:=h3
  clear h3
  refine cond_s h ?_ ?_<;>intro hc h
  ·
   exact hJ3 _ _ ⟨_,some_inj h,rfl,hS⟩
  exact hJ3 _ _ ⟨_,some_inj h,rfl,hS⟩
 clear h3 hS
 rintro s w ⟨t1,rfl,rfl,hS⟩
 have h:=c3
 clear c3
 try dsimp only
 obtain ⟨t2,ht2,h⟩:=bnd h
 refine wk_r02_NatOf H hS  ht2 ?_;rintro a4 m4 c4 w hS
 refine ⟨_,_,_,rfl,?_⟩
 replace hS:=ro1 hS
 refine stc_s hS rfl rfl ?_;intro w hS
 refine ⟨_,hS.cel mp0 rfl,_,_,_,hS.cel mp0 rfl,_,hS.cel mp0 rfl,?_⟩
 replace hS:=ro2 hS
 refine stc_s hS rfl rfl ?_;intro w hS
 refine stc_s hS rfl rfl ?_;intro w hS
 refine stc_s hS rfl rfl ?_;intro w hS
 refine ⟨_,hS.cel mp0 rfl,_,_,_,hS.cel mp0 rfl,_,hS.cel mp0 rfl,?_⟩
 cases some_inj h
 exact hK _ _ _ _ (hS.pick (A:=[_,_,_]) [2] rfl)
theorem wk_r02_low {q0 qh qk l0 u0b} (hS:Ho w0 w L) (qt:EU L l0 q0 qh qk) (h:T_r02_low l0=some u0b) (hK:∀ w1,Ho w0 w1 L→K (.slice (slBase q0 0 qk 1) u0b.toNat qk) w1):CallsX P N.f_r02_low #[.slice q0 qh qk] w K:=by
 refine H.r02_low q0 qh qk w _ ?_
 unfold S_r02_low
 unfold T_r02_low at h
 try dsimp only
 obtain ⟨t1,ht1,h⟩:=bnd h
 obtain rfl:=lenE ht1 (qt.now (fun _ h=>h) hS)
 obtain ⟨o1,h1,c1⟩:=bnd h
 refine cutM_i (fun s w=>∃ (t2:Int),t2=o1∧s=(t2,())∧Ho w0 w L) (fun J1 hJ1=>?_) ?_
 ·
  have h:=h1
  clear h1
  refine iter_sim (fun s w t=>∃ (t3:Int),t3=t∧s=(t3,())∧Ho w0 w L) ?_ h ⟨_,rfl,rfl,hS⟩
  clear h hS
  rintro s w t X q ⟨t3,rfl,rfl,hS⟩ h hX hO
  unfold T_r02_low_b2 at h
  try dsimp only
  refine cond_s h ?_ ?_<;>intro hc h
  ·
   obtain ⟨t4,ht4,h⟩:=bnd h
   obtain ⟨q2x,vj,q2r⟩:=atE ht4
   refine idx_s (qt.now (fun _ h=>h) hS) q2x vj q2r ?_;intro b3 hb3
   refine ⟨_,rd_get (qt.now (fun _ h=>h) hS) hb3 q2x,?_⟩
   refine cond_s h ?_ ?_<;>intro hc h
   ·
    obtain rfl:=some_inj h
    exact hX _ rfl _ _ ⟨_,rfl,rfl,hS⟩
   obtain rfl:=some_inj h
   have h:=congrArg some (hO _ rfl)
   exact hJ1 _ _ ⟨_,some_inj h,rfl,hS⟩
  obtain rfl:=some_inj h
  have h:=congrArg some (hO _ rfl)
  exact hJ1 _ _ ⟨_,some_inj h,rfl,hS⟩
 clear h1 hS
 rintro s w ⟨t2,rfl,rfl,hS⟩
 have h:=c1
 clear c1
 try dsimp only
 obtain ⟨t5,ht5,h⟩:=bnd h
 obtain ⟨rfl,jt,yh,yi⟩:=subE ht5
 have yl:=(qt.now (fun _ h=>h) hS).hiCap yi
 refine ⟨yh,yl,?_⟩
 cases some_inj h
 exact hK _ hS
theorem wk_r02_halves {q0 qh qk l0 u0} (hS:Ho w0 w L) (qt:EU L l0 q0 qh qk) (h:T_r02_halves l0=some u0) (hK:∀ (a0:OA) (n0 c0:Nat) (w1:World),Ho w0 w1 ((sl a0 n0 c0 (List.map (Value.int .u64) u0) N.t_uint64)::L)→K (.slice a0 n0 c0) w1):CallsX P N.f_r02_halves #[.slice q0 qh qk] w K:=by
 refine H.r02_halves q0 qh qk w _ ?_
 unfold S_r02_halves
 unfold T_r02_halves at h
 try dsimp only
 obtain ⟨o4,h4,c4⟩:=bnd h
 refine cutM_i (fun s w=>∃ (a1:OA) (m2:Nat) (c3:Nat) (t1:List Int),t1=o4∧s=((a1,m2,c3),())∧Ho w0 w ((sl a1 m2 c3 (List.map (Value.int .u64) t1) N.t_uint64)::L)) (fun J4 hJ4=>?_) ?_
 ·
  have h:=h4
  clear h4
  replace hS:=hS.none (α:=Int) (enc:=(Value.int .u64)) (t:=N.t_uint64)
  refine iter_sim (fun s w t=>∃ (t2:Int) (a5:OA) (m6:Nat) (c7:Nat) (t3:List Int),(t2,t3)=t∧s=((a5,m6,c7),t2,())∧Ho w0 w ((sl a5 m6 c7 (List.map (Value.int .u64) t3) N.t_uint64)::L)) ?_ h ⟨_,_,_,_,_,rfl,rfl,hS⟩
  clear h hS
  rintro s w t X q ⟨t2,a5,m6,c7,t3,rfl,rfl,hS⟩ h hX hO
  unfold T_r02_halves_b2 at h
  try dsimp only
  obtain ⟨t4,ht4,h⟩:=bnd h
  obtain rfl:=lenE ht4 ((qt.mono tl1).now (fun _ h=>h) hS)
  refine cond_s h ?_ ?_<;>intro hc h
  ·
   obtain ⟨t5,ht5,h⟩:=bnd h
   obtain ⟨q8x,vt,q8r⟩:=atE ht5
   refine idx_s ((qt.mono tl1).now (fun _ h=>h) hS) q8x vt q8r ?_;intro b9 hb9
   refine ⟨_,rd_get ((qt.mono tl1).now (fun _ h=>h) hS) hb9 q8x,?_⟩
   refine ⟨by decide,?_⟩
   obtain ⟨t6,ht6,h⟩:=bnd h
   obtain ⟨q10x,js,q10r⟩:=atE ht6
   refine idx_s ((qt.mono tl1).now (fun _ h=>h) hS) q10x js q10r ?_;intro b11 hb11
   refine ⟨_,rd_get ((qt.mono tl1).now (fun _ h=>h) hS) hb11 q10x,?_⟩
   refine ⟨by decide,?_⟩
   refine drM_s hS ?_;intro w hS
   obtain ⟨t7,ht7,h⟩:=bnd h
   obtain rfl:([(t5.tmod 4294967296),(u64.wrap (t6.tdiv 4294967296))]:List Int)=t7:=some_inj ht7
   refine lit_s (ks:=[(t5.tmod 4294967296),(u64.wrap (t6.tdiv 4294967296))]) (enc:=(Value.int .u64)) (m:=2) hS rfl rfl ?_;intro r12 w hS
   refine drM_s hS ?_;intro w hS
   obtain ⟨t8,ht8,h⟩:=bnd h
   obtain ⟨rfl,kt8⟩:=appE ht8
   replace hS:=ro1 hS
   refine app_s hS kt8 ((Ent.sl mp1).now (fun _ h=>h) hS) (fun _=>rfl) rfl ?_;clear hS kt8;intro a13 c13 w hS
   refine drM_s hS ?_;intro w hS
   obtain rfl:=some_inj h
   exact hX _ rfl _ _ ⟨_,_,_,_,_,rfl,rfl,(hS.pick (A:=[_,_]) [0] rfl)⟩
  obtain rfl:=some_inj h
  have h:=congrArg some (hO _ rfl)
  exact hJ4 _ _ ⟨_,_,_,_,some_inj h,rfl,hS⟩
 clear h4 hS
 rintro s w ⟨a1,m2,c3,t1,rfl,rfl,hS⟩
 have h:=c4
 clear c4
 try dsimp only
 obtain ⟨t9,ht9,h⟩:=bnd h
 refine wk_r02_low H hS (Ent.sl mp0) ht9 ?_;rintro w hS
 refine ⟨_,_,_,rfl,?_⟩
 obtain ⟨t10,ht10,h⟩:=bnd h
 obtain ⟨rfl,zi,zj,yt⟩:=subE ht10
 have zk:=((Ent.sl mp0).now (fun _ h=>h) hS).hiCap yt
 replace hS:=Ho.cut hS yt
 cases some_inj h
 exact hK _ _ _ _ hS
theorem wk_r02_short {q0 qh qk l0 q1 u0 u1} (hS:Ho w0 w L) (qt:EU L l0 q0 qh qk) (h:T_r02_short l0 q1=some (u0,u1)) (hK:∀ (a0:OA) (n0 c0:Nat) (w1:World),Ho w0 w1 ((sl a0 n0 c0 (List.map (Value.int .u64) u0) N.t_uint64)::L)→K (.tuple #[.slice a0 n0 c0,.int .u64 u1]) w1):CallsX P N.f_r02_short #[.slice q0 qh qk,.int .u64 q1] w K:=by
 refine H.r02_short q0 qh qk q1 w _ ?_
 unfold S_r02_short
 unfold T_r02_short at h
 try dsimp only
 obtain ⟨t1,ht1,h⟩:=bnd h
 obtain rfl:=lenE ht1 (qt.now (fun _ h=>h) hS)
 obtain ⟨t2,ht2,h⟩:=bnd h
 obtain ⟨rfl,kt2⟩:=mkE ht2
 refine mk_s (enc:=(Value.int .u64)) hS kt2 rfl ?_;clear hS kt2;intro r1 w hS
 obtain ⟨t3,ht3,h⟩:=bnd h
 obtain rfl:=lenE ht3 ((qt.mono tl1).now (fun _ h=>h) hS)
 obtain ⟨o2,h2,c2⟩:=bnd h
 refine cutM_i (fun s w=>∃ (t4:Int) (t5:List Int),(t4,t5)=o2∧s=(t4,())∧Ho w0 w ((sl (some ⟨r1,0,none⟩) (((qh:Int)).toNat) (((qh:Int)).toNat) (List.map (Value.int .u64) t5) N.t_uint64)::L)) (fun J2 hJ2=>?_) ?_
 ·
  have h:=h2
  clear h2
  refine iter_sim (fun s w t=>∃ (t6:Int) (t7:Int) (t8:List Int),(t6,t7,t8)=t∧s=(t6,t7,())∧Ho w0 w ((sl (some ⟨r1,0,none⟩) (((qh:Int)).toNat) (((qh:Int)).toNat) (List.map (Value.int .u64) t8) N.t_uint64)::L)) ?_ h ⟨_,_,_,rfl,rfl,hS⟩
  clear h hS
  rintro s w t X q ⟨t6,t7,t8,rfl,rfl,hS⟩ h hX hO
  unfold T_r02_short_b2 at h
  try dsimp only
  refine cond_s h ?_ ?_<;>intro hc h
  ·
   obtain ⟨t9,ht9,h⟩:=bnd h
   obtain ⟨q3x,vo,q3r⟩:=atE ht9
   refine idx_s ((qt.mono tl1).now (fun _ h=>h) hS) q3x vo q3r ?_;intro b4 hb4
   refine ⟨_,rd_get ((qt.mono tl1).now (fun _ h=>h) hS) hb4 q3x,?_⟩
   obtain ⟨t13,ht13,h⟩:=bnd h
   refine ⟨nz_s ht13,?_⟩
   obtain ⟨t10,ht10,h⟩:=bnd h
   obtain ⟨q5x,vp,q5r⟩:=atE ht10
   refine idy_s ((Ent.sl mp0).now (fun _ h=>h) hS) q5x vp q5r ?_
   obtain ⟨t11,ht11,h⟩:=bnd h
   obtain rfl:=some_inj ht11
   refine sto_s hS rfl q5r ?_;intro w hS
   obtain ⟨t12,ht12,h⟩:=bnd h
   refine ⟨nz_s ht12,?_⟩
   obtain rfl:=some_inj h
   exact hX _ rfl _ _ ⟨_,_,_,rfl,rfl,hS⟩
  obtain rfl:=some_inj h
  have h:=congrArg some (hO _ rfl)
  exact hJ2 _ _ ⟨_,_,some_inj h,rfl,hS⟩
 clear h2 hS
 rintro s w ⟨t4,t5,rfl,rfl,hS⟩
 have h:=c2
 clear c2
 try dsimp only
 obtain ⟨t14,ht14,h⟩:=bnd h
 refine wk_r02_low H hS (Ent.sl mp0) ht14 ?_;rintro w hS
 refine ⟨_,_,_,rfl,?_⟩
 obtain ⟨t15,ht15,h⟩:=bnd h
 obtain ⟨rfl,za,zb,yp⟩:=subE ht15
 have zc:=((Ent.sl mp0).now (fun _ h=>h) hS).hiCap yp
 replace hS:=Ho.cut hS yp
 cases some_inj h
 exact hK _ _ _ _ hS
theorem wk_r02_limbs {q0 qh qk l0 u0} (hS:Ho w0 w L) (qt:EU L l0 q0 qh qk) (h:T_r02_limbs l0=some u0) (hK:∀ (a0:OA) (n0 c0:Nat) (w1:World),Ho w0 w1 ((sl a0 n0 c0 (List.map (Value.int .u64) u0) N.t_uint64)::L)→K (.slice a0 n0 c0) w1):CallsX P N.f_r02_limbs #[.slice q0 qh qk] w K:=by
 refine H.r02_limbs q0 qh qk w _ ?_
 unfold S_r02_limbs
 unfold T_r02_limbs at h
 try dsimp only
 obtain ⟨o4,h4,c4⟩:=bnd h
 refine cutM_i (fun s w=>∃ (a1:OA) (m2:Nat) (c3:Nat) (t1:List Int),t1=o4∧s=((a1,m2,c3),())∧Ho w0 w ((sl a1 m2 c3 (List.map (Value.int .u64) t1) N.t_uint64)::L)) (fun J4 hJ4=>?_) ?_
 ·
  have h:=h4
  clear h4
  replace hS:=hS.none (α:=Int) (enc:=(Value.int .u64)) (t:=N.t_uint64)
  refine iter_sim (fun s w t=>∃ (t2:Int) (a5:OA) (m6:Nat) (c7:Nat) (t3:List Int),(t2,t3)=t∧s=((a5,m6,c7),t2,())∧Ho w0 w ((sl a5 m6 c7 (List.map (Value.int .u64) t3) N.t_uint64)::L)) ?_ h ⟨_,_,_,_,_,rfl,rfl,hS⟩
  clear h hS
  rintro s w t X q ⟨t2,a5,m6,c7,t3,rfl,rfl,hS⟩ h hX hO
  unfold T_r02_limbs_b2 at h
  try dsimp only
  obtain ⟨t4,ht4,h⟩:=bnd h
  obtain rfl:=lenE ht4 ((qt.mono tl1).now (fun _ h=>h) hS)
  refine cond_s h ?_ ?_<;>intro hc h
  ·
   obtain ⟨t5,ht5,h⟩:=bnd h
   obtain ⟨q8x,vt,q8r⟩:=atE ht5
   refine idx_s ((qt.mono tl1).now (fun _ h=>h) hS) q8x vt q8r ?_;intro b9 hb9
   refine ⟨_,rd_get ((qt.mono tl1).now (fun _ h=>h) hS) hb9 q8x,?_⟩
   obtain ⟨t6,ht6,h⟩:=bnd h
   obtain rfl:=lenE ht6 ((qt.mono tl1).now (fun _ h=>h) hS)
   obtain ⟨o10,h10,c10⟩:=bnd h
   refine cutM_i (fun s w=>∃ (t7:Int),t7=o10∧s=(t7,())∧Ho w0 w ((sl a5 m6 c7 (List.map (Value.int .u64) t3) N.t_uint64)::L)) (fun J10 hJ10=>?_) ?_
   ·
    have h:=h10
    clear h10
    refine cond_s h ?_ ?_<;>intro hc h
    ·
     obtain ⟨t8,ht8,h⟩:=bnd h
     obtain ⟨q11x,vw,q11r⟩:=atE ht8
     refine idx_s ((qt.mono tl1).now (fun _ h=>h) hS) q11x vw q11r ?_;intro b12 hb12
     refine ⟨_,rd_get ((qt.mono tl1).now (fun _ h=>h) hS) hb12 q11x,?_⟩
     exact hJ10 _ _ ⟨_,some_inj h,rfl,hS⟩
    exact hJ10 _ _ ⟨_,some_inj h,rfl,hS⟩
   clear h10 hS
   rintro s w ⟨t7,rfl,rfl,hS⟩
   have h:=c10
   clear c10
   try dsimp only
   obtain ⟨t9,ht9,h⟩:=bnd h
   obtain rfl:([t7]:List Int)=t9:=some_inj ht9
   refine lit_s (ks:=[t7]) (enc:=(Value.int .u64)) (m:=1) hS rfl rfl ?_;intro r13 w hS
   obtain ⟨t10,ht10,h⟩:=bnd h
   obtain ⟨rfl,kt10⟩:=appE ht10
   replace hS:=ro1 hS
   refine app_s hS kt10 ((Ent.sl mp1).now (fun _ h=>h) hS) (fun _=>rfl) rfl ?_;clear hS kt10;intro a14 c14 w hS
   obtain rfl:=some_inj h
   exact hX _ rfl _ _ ⟨_,_,_,_,_,rfl,rfl,(hS.pick (A:=[_,_]) [0] rfl)⟩
  obtain rfl:=some_inj h
  have h:=congrArg some (hO _ rfl)
  exact hJ4 _ _ ⟨_,_,_,_,some_inj h,rfl,hS⟩
 clear h4 hS
 rintro s w ⟨a1,m2,c3,t1,rfl,rfl,hS⟩
 have h:=c4
 clear c4
 try dsimp only
 obtain ⟨t11,ht11,h⟩:=bnd h
 refine wk_r02_NatTrim H hS (Ent.sl mp0) ht11 ?_;rintro a15 m15 c15 w hS
 refine ⟨_,_,_,rfl,?_⟩
 cases some_inj h
 exact hK _ _ _ _ (hS.pick (A:=[_,_]) [0] rfl)
theorem wk_r02_NatDown {q0 qh qk l0 q1 u0 u1} (hS:Ho w0 w L) (qt:EU L l0 q0 qh qk) (h:T_r02_NatDown l0 q1=some (u0,u1)) (hK:∀ (a0:OA) (n0 c0:Nat) (w1:World),Ho w0 w1 ((sl a0 n0 c0 (List.map (Value.int .u64) u0) N.t_uint64)::L)→K (.tuple #[.slice a0 n0 c0,.bool u1]) w1):CallsX P N.f_r02_NatDown #[.slice q0 qh qk,.int .i64 q1] w K:=by
 refine H.r02_NatDown q0 qh qk q1 w _ ?_
 unfold S_r02_NatDown
 unfold T_r02_NatDown at h
 try dsimp only
 obtain ⟨t1,ht1,h⟩:=bnd h
 refine wk_r02_halves H hS qt ht1 ?_;rintro a1 m1 c1 w hS
 refine ⟨_,_,_,rfl,?_⟩
 obtain ⟨o2,h2,c2⟩:=bnd h
 refine cutM_i (fun s w=>∃ (t2:Bool),t2=o2∧s=(t2,())∧Ho w0 w ((sl a1 m1 c1 (List.map (Value.int .u64) t1) N.t_uint64)::L)) (fun J2 hJ2=>?_) ?_
 ·
  have h:=h2
  clear h2
  refine iter_sim (fun s w t=>∃ (t3:Bool) (t4:Int),(t3,t4)=t∧s=(t3,t4,())∧Ho w0 w ((sl a1 m1 c1 (List.map (Value.int .u64) t1) N.t_uint64)::L)) ?_ h ⟨_,_,rfl,rfl,hS⟩
  clear h hS
  rintro s w t X q ⟨t3,t4,rfl,rfl,hS⟩ h hX hO
  unfold T_r02_NatDown_b2 at h
  try dsimp only
  refine ⟨by decide,?_⟩
  refine cond_s h ?_ ?_<;>intro hc h
  ·
   obtain ⟨t5,ht5,h⟩:=bnd h
   obtain rfl:=lenE ht5 ((Ent.sl mp0).now (fun _ h=>h) hS)
   refine cond_s h ?_ ?_<;>intro hc h
   ·
    refine cond_s h ?_ ?_<;>intro hc h
    ·
     obtain ⟨t6,ht6,h⟩:=bnd h
     obtain ⟨q3x,vo,q3r⟩:=atE ht6
     refine idx_s ((Ent.sl mp0).now (fun _ h=>h) hS) q3x vo q3r ?_;intro b4 hb4
     refine ⟨_,rd_get ((Ent.sl mp0).now (fun _ h=>h) hS) hb4 q3x,?_⟩
     obtain rfl:=some_inj h
     exact hX _ rfl _ _ ⟨_,_,rfl,rfl,hS⟩
    obtain rfl:=some_inj h
    exact hX _ rfl _ _ ⟨_,_,rfl,rfl,hS⟩
   obtain rfl:=some_inj h
   have h:=congrArg some (hO _ rfl)
   exact hJ2 _ _ ⟨_,some_inj h,rfl,hS⟩
  obtain rfl:=some_inj h
  have h:=congrArg some (hO _ rfl)
  exact hJ2 _ _ ⟨_,some_inj h,rfl,hS⟩
 clear h2 hS
 rintro s w ⟨t2,rfl,rfl,hS⟩
 have h:=c2
 clear c2
 try dsimp only
 refine ⟨by decide,?_⟩
 obtain ⟨t7,ht7,h⟩:=bnd h
 obtain rfl:=lenE ht7 ((Ent.sl mp0).now (fun _ h=>h) hS)
 refine cond_s h ?_ ?_<;>intro hc h
 ·
  replace hS:=hS.none (α:=Int) (enc:=(Value.int .u64)) (t:=N.t_uint64)
  cases some_inj h
  exact hK _ _ _ _ (hS.pick (A:=[_,_]) [0] rfl)
 obtain ⟨o5,h5,c5⟩:=bnd h
 refine cutM_i (fun s w=>∃ (t8:Int),t8=o5∧s=(t8,())∧Ho w0 w ((sl a1 m1 c1 (List.map (Value.int .u64) t1) N.t_uint64)::L)) (fun J5 hJ5=>?_) ?_
 ·
  have h:=h5
  clear h5
  refine iter_sim (fun s w t=>∃ (t9:Int) (t10:Int),(t9,t10)=t∧s=(t9,t10,())∧Ho w0 w ((sl a1 m1 c1 (List.map (Value.int .u64) t1) N.t_uint64)::L)) ?_ h ⟨_,_,rfl,rfl,hS⟩
  clear h hS
  rintro s w t X q ⟨t9,t10,rfl,rfl,hS⟩ h hX hO
  unfold T_r02_NatDown_b4 at h
  try dsimp only
  refine ⟨by decide,?_⟩
  refine cond_s h ?_ ?_<;>intro hc h
  ·
   obtain rfl:=some_inj h
   exact hX _ rfl _ _ ⟨_,_,rfl,rfl,hS⟩
  obtain rfl:=some_inj h
  have h:=congrArg some (hO _ rfl)
  exact hJ5 _ _ ⟨_,some_inj h,rfl,hS⟩
 clear h5 hS
 rintro s w ⟨t8,rfl,rfl,hS⟩
 have h:=c5
 clear c5
 try dsimp only
 refine ⟨by decide,?_⟩
 obtain ⟨t12,ht12,h⟩:=bnd h
 obtain rfl:=lenE ht12 ((Ent.sl mp0).now (fun _ h=>h) hS)
 obtain ⟨t11,ht11,h⟩:=bnd h
 obtain ⟨rfl,jw,jy,zr⟩:=subE ht11
 refine ⟨(by first | exact jw | omega),(by first | exact jy | omega),?_⟩
 obtain ⟨⟨t13,t14⟩,ho13,h⟩:=bnd h
 refine wk_r02_short H hS (Ent.from (Ent.sl mp0) jw jy) ho13 ?_;clear hS ho13;rintro a7 m7 c7 w hS
 refine ⟨_,_,_,_,rfl,?_⟩
 obtain ⟨t15,ht15,h⟩:=bnd h
 refine wk_r02_limbs H hS (Ent.sl mp0) ht15 ?_;rintro a8 m8 c8 w hS
 refine ⟨_,_,_,rfl,?_⟩
 refine cond_s h ?_ ?_<;>intro hc h
 ·
  cases some_inj h
  exact hK _ _ _ _ (hS.pick (A:=[_,_,_]) [0] rfl)
 cases some_inj h
 exact hK _ _ _ _ (hS.pick (A:=[_,_,_]) [0] rfl)
theorem wk_r02_Norm {qe qf qb qd l0_1 qg u0 u1 u2 u3} (hS:Ho w0 w L) (qm:EU L l0_1 qf qb qd) (h:T_r02_Norm qe l0_1 qg=some (u0,u1,u2,u3)) (hK:∀ (a1:OA) (n1 c1:Nat) (w1:World),Ho w0 w1 ((sl a1 n1 c1 (List.map (Value.int .u64) u1) N.t_uint64)::L)→K (.tuple #[.agg #[.bool u0,.slice a1 n1 c1,.int .i64 u2],.int .i64 u3]) w1):CallsX P N.f_r02_Norm #[.agg #[.bool qe,.slice qf qb qd,.int .i64 qg]] w K:=by
 refine H.r02_Norm qe qf qb qd qg w _ ?_
 unfold S_r02_Norm
 unfold T_r02_Norm at h
 try dsimp only
 refine newM_s hS ?_;intro r1 w hS
 refine newM_s hS ?_;intro r2 w hS
 refine ⟨_,_,_,hS.cel mp1 rfl,?_⟩
 obtain ⟨t1,ht1,h⟩:=bnd h
 refine wk_r02_NatTrim H hS (qm.mono tl2) ht1 ?_;rintro a3 m3 c3 w hS
 refine ⟨_,_,_,rfl,?_⟩
 obtain ⟨t2,ht2,h⟩:=bnd h
 obtain rfl:=lenE ht2 ((Ent.sl mp0).now (fun _ h=>h) hS)
 refine cond_s h ?_ ?_<;>intro hc h
 ·
  replace hS:=ro1 hS
  refine stc_s hS rfl rfl ?_;intro w hS
  refine stc_s hS rfl rfl ?_;intro w hS
  refine stc_s hS rfl rfl ?_;intro w hS
  refine ⟨_,hS.cel mp0 rfl,_,_,_,hS.cel mp0 rfl,_,hS.cel mp0 rfl,?_⟩
  replace hS:=hS.none (α:=Int) (enc:=(Value.int .u64)) (t:=N.t_uint64)
  cases some_inj h
  exact hK _ _ _ _ (hS.pick (A:=[_,_,_,_]) [0] rfl)
 obtain ⟨o4,h4,c4⟩:=bnd h
 refine cutM_i (fun s w=>∃ (t3:Int),t3=o4∧s=(t3,())∧Ho w0 w ((sl a3 m3 c3 (List.map (Value.int .u64) t1) N.t_uint64)::(cl r2 [.bool false,.slice none 0 0,.int .i64 0] N.t_Dyad)::(cl r1 [.bool qe,.slice qf qb qd,.int .i64 qg] N.t_Dyad)::L)) (fun J4 hJ4=>?_) ?_
 ·
  have h:=h4
  clear h4
  refine iter_sim (fun s w t=>∃ (t4:Int),t4=t∧s=(t4,())∧Ho w0 w ((sl a3 m3 c3 (List.map (Value.int .u64) t1) N.t_uint64)::(cl r2 [.bool false,.slice none 0 0,.int .i64 0] N.t_Dyad)::(cl r1 [.bool qe,.slice qf qb qd,.int .i64 qg] N.t_Dyad)::L)) ?_ h ⟨_,rfl,rfl,hS⟩
  clear h hS
  rintro s w t X q ⟨t4,rfl,rfl,hS⟩ h hX hO
  unfold T_r02_Norm_b2 at h
  try dsimp only
  refine ⟨by decide,?_⟩
  obtain ⟨t5,ht5,h⟩:=bnd h
  obtain ⟨q5x,vp,q5r⟩:=atE ht5
  refine idx_s ((Ent.sl mp0).now (fun _ h=>h) hS) q5x vp q5r ?_;intro b6 hb6
  refine ⟨_,rd_get ((Ent.sl mp0).now (fun _ h=>h) hS) hb6 q5x,?_⟩
  refine ⟨by decide,?_⟩
  obtain ⟨t6,ht6,h⟩:=bnd h
  refine ⟨nn_s ht6,?_⟩
  refine ⟨by decide,?_⟩
  refine cond_s h ?_ ?_<;>intro hc h
  ·
   obtain rfl:=some_inj h
   exact hX _ rfl _ _ ⟨_,rfl,rfl,hS⟩
  obtain rfl:=some_inj h
  have h:=congrArg some (hO _ rfl)
  exact hJ4 _ _ ⟨_,some_inj h,rfl,hS⟩
 clear h4 hS
 rintro s w ⟨t3,rfl,rfl,hS⟩
 have h:=c4
 clear c4
 try dsimp only
 obtain ⟨⟨t7,t8⟩,ho7,h⟩:=bnd h
 refine wk_r02_NatDown H hS (Ent.sl mp0) ho7 ?_;clear hS ho7;rintro a7 m7 c7 w hS
 refine ⟨_,_,_,_,rfl,?_⟩
 obtain ⟨o8,h8,c8⟩:=bnd h
 refine cutM_i (fun s w=>∃ (t9:Bool),t9=o8∧s=(t9,())∧Ho w0 w ((sl a7 m7 c7 (List.map (Value.int .u64) t7) N.t_uint64)::(cl r2 [.bool false,.slice none 0 0,.int .i64 0] N.t_Dyad)::(cl r1 [.bool qe,.slice qf qb qd,.int .i64 qg] N.t_Dyad)::L)) (fun J8 hJ8=>?_) ?_
 ·
  have h:=h8
  clear h8
  obtain ⟨t10,ht10,h⟩:=bnd h
  obtain rfl:=lenE ht10 ((Ent.sl mp0).now (fun _ h=>h) hS)
  refine cond_s h ?_ ?_<;>intro hc h
  ·
   refine ⟨_,hS.cel mp3 rfl,?_⟩
   refine cond_s h ?_ ?_<;>intro hc h
   ·
    refine ⟨_,hS.cel mp3 rfl,?_⟩
    refine cond_s h ?_ ?_<;>intro hc h
    ·
     refine ⟨_,hS.cel mp3 rfl,?_⟩
     obtain rfl:=some_inj h
     exact hJ8 _ _ ⟨_,rfl,rfl,(hS.pick (A:=[_,_,_,_]) [0,1,1] rfl)⟩
    obtain rfl:=some_inj h
    exact hJ8 _ _ ⟨_,rfl,rfl,(hS.pick (A:=[_,_,_,_]) [0,1,1] rfl)⟩
   obtain rfl:=some_inj h
   exact hJ8 _ _ ⟨_,rfl,rfl,(hS.pick (A:=[_,_,_,_]) [0,1,1] rfl)⟩
  obtain rfl:=some_inj h
  exact hJ8 _ _ ⟨_,rfl,rfl,(hS.pick (A:=[_,_,_,_]) [0,1,1] rfl)⟩
 clear h8 hS
 rintro s w ⟨t9,rfl,rfl,hS⟩
 have h:=c8
 clear c8
 try dsimp only
 refine cond_s h ?_ ?_<;>intro hc h
 ·
  replace hS:=ro1 hS
  refine stc_s hS rfl rfl ?_;intro w hS
  refine stc_s hS rfl rfl ?_;intro w hS
  refine stc_s hS rfl rfl ?_;intro w hS
  refine ⟨_,hS.cel mp0 rfl,_,_,_,hS.cel mp0 rfl,_,hS.cel mp0 rfl,?_⟩
  replace hS:=hS.none (α:=Int) (enc:=(Value.int .u64)) (t:=N.t_uint64)
  cases some_inj h
  exact hK _ _ _ _ (hS.pick (A:=[_,_,_,_]) [0] rfl)
 refine ⟨_,hS.cel mp2 rfl,_,hS.cel mp2 rfl,?_⟩
 replace hS:=ro1 hS
 refine stc_s hS rfl rfl ?_;intro w hS
 refine stc_s hS rfl rfl ?_;intro w hS
 refine stc_s hS rfl rfl ?_;intro w hS
 refine ⟨_,hS.cel mp0 rfl,_,_,_,hS.cel mp0 rfl,_,hS.cel mp0 rfl,?_⟩
 cases some_inj h
 exact hK _ _ _ _ (hS.pick (A:=[_,_,_]) [1] rfl)
theorem wk_r02_Told {qe qf qb qd l0_1 qg u0 u1 u2 u3} (hS:Ho w0 w L) (qm:EU L l0_1 qf qb qd) (h:T_r02_Told qe l0_1 qg=some (u0,u1,u2,u3)) (hK:∀ (a1:OA) (n1 c1:Nat) (w1:World),Ho w0 w1 ((sl a1 n1 c1 (List.map (Value.int .u64) u1) N.t_uint64)::L)→K (.tuple #[.agg #[.bool u0,.slice a1 n1 c1,.int .i64 u2],.int .i64 u3]) w1):CallsX P N.f_r02_Told #[.agg #[.bool qe,.slice qf qb qd,.int .i64 qg]] w K:=by
 refine H.r02_Told qe qf qb qd qg w _ ?_
 unfold S_r02_Told
 unfold T_r02_Told at h
 try dsimp only
 refine newM_s hS ?_;intro r1 w hS
 refine newM_s hS ?_;intro r2 w hS
 refine ⟨_,hS.cel mp1 rfl,_,_,_,hS.cel mp1 rfl,_,hS.cel mp1 rfl,?_⟩
 obtain ⟨⟨t1,t2,t3,t4⟩,ho1,h⟩:=bnd h
 refine wk_r02_Norm H hS (qm.mono tl2) ho1 ?_;clear hS ho1;rintro a3 m3 c3 w hS
 refine ⟨_,_,_,_,_,_,rfl,?_⟩
 replace hS:=ro1 hS
 refine stc_s hS rfl rfl ?_;intro w hS
 refine stc_s hS rfl rfl ?_;intro w hS
 refine stc_s hS rfl rfl ?_;intro w hS
 refine ⟨_,hS.cel mp0 rfl,_,_,_,hS.cel mp0 rfl,_,hS.cel mp0 rfl,?_⟩
 cases some_inj h
 exact hK _ _ _ _ (hS.pick (A:=[_,_,_]) [1] rfl)
theorem wk_r02_Int {q0 u0 u1 u2} (hS:Ho w0 w L)  (h:T_r02_Int q0=some (u0,u1,u2)) (hK:∀ (a1:OA) (n1 c1:Nat) (w1:World),Ho w0 w1 ((sl a1 n1 c1 (List.map (Value.int .u64) u1) N.t_uint64)::L)→K (.agg #[.bool u0,.slice a1 n1 c1,.int .i64 u2]) w1):CallsX P N.f_r02_Int #[.int .i64 q0] w K:=by
 refine H.r02_Int q0 w _ ?_
 unfold S_r02_Int
 unfold T_r02_Int at h
 try dsimp only
 refine newM_s hS ?_;intro r1 w hS
 obtain ⟨⟨t1,t2,t3⟩,ho1,h⟩:=bnd h
 refine wk_r02_Whole H hS  ho1 ?_;clear hS ho1;rintro a2 m2 c2 w hS
 refine ⟨_,_,_,_,_,rfl,?_⟩
 obtain ⟨⟨t4,t5,t6,t7⟩,ho4,h⟩:=bnd h
 refine wk_r02_Told H hS (Ent.sl mp0) ho4 ?_;clear hS ho4;rintro a3 m3 c3 w hS
 refine ⟨_,_,_,_,_,_,rfl,?_⟩
 refine newM_s hS ?_;intro r4 w hS
 refine stc_s hS rfl rfl ?_;intro w hS
 refine stc_s hS rfl rfl ?_;intro w hS
 refine stc_s hS rfl rfl ?_;intro w hS
 refine ⟨_,hS.cel mp0 rfl,_,_,_,hS.cel mp0 rfl,_,hS.cel mp0 rfl,?_⟩
 replace hS:=ro3 hS
 refine stc_s hS rfl rfl ?_;intro w hS
 refine stc_s hS rfl rfl ?_;intro w hS
 refine stc_s hS rfl rfl ?_;intro w hS
 refine ⟨_,hS.cel mp0 rfl,_,_,_,hS.cel mp0 rfl,_,hS.cel mp0 rfl,?_⟩
 cases some_inj h
 exact hK _ _ _ _ (hS.pick (A:=[_,_,_,_]) [2] rfl)
theorem wk_w16_of {q0 q1 qs qx l1 u0 u1} {u2:List Dy} (hS:Ho w0 w L) (qz:Ent L (rdA (List.map (Value.int .i64) l1) q1 qs qx)) (h:T_w16_of q0 l1=some (u0,u1,u2)) (hK:∀ (a2:OA) (n2 c2:Nat) (hh2:List Hd) (it2:It) (w1:World),(∀ L1,it2∈L1→AllD L1 u2 hh2)→Ho w0 w1 ((sl a2 (n2*3) (c2*3) (dyC u2 hh2) N.t_Dyad)::it2::L)→K (.agg #[.int .i64 u0,.int .i64 u1,.slice a2 n2 c2]) w1):CallsX P N.f_w16_of #[.int .i64 q0,.slice q1 qs qx] w K:=by
 refine H.w16_of q0 q1 qs qx w _ ?_
 unfold S_w16_of
 unfold T_w16_of at h
 try dsimp only
 replace hS:=hS.voidItem
 refine newM_s hS ?_;intro r1 w hS
 refine newM_s hS ?_;intro r2 w hS
 refine stc_s hS rfl rfl ?_;intro w hS
 refine stc_s hS rfl rfl ?_;intro w hS
 refine stc_s hS rfl rfl ?_;intro w hS
 obtain ⟨o9,h9,c9⟩:=bnd h
 refine cutM_i (fun s w=>∃ (a3:OA) (m4:Nat) (c5:Nat) (t1:List Dy) (hh6:List Hd) (it8:It),t1=o9∧s=(())∧AllD [it8] t1 hh6∧Ho w0 w ((cl r2 [.int .i64 q0,.int .i64 q0,.slice a3 m4 c5] N.t_Dyads)::(cl r1 [.int .i64 0,.int .i64 0,.slice none 0 0] N.t_Dyads)::(sl a3 (m4*3) (c5*3) (dyC t1 hh6) N.t_Dyad)::it8::L)) (fun J9 hJ9=>?_) ?_
 ·
  have h:=h9
  clear h9
  replace hS:=hS.noneD (t:=N.t_Dyad)
  refine iter_sim (fun s w t=>∃ (t2:Int) (it10:It) (a11:OA) (m12:Nat) (c13:Nat) (t3:List Dy) (hh14:List Hd),(t2,t3)=t∧s=(t2,())∧AllD [it10] t3 hh14∧Ho w0 w ((cl r2 [.int .i64 q0,.int .i64 q0,.slice a11 m12 c13] N.t_Dyads)::(cl r1 [.int .i64 0,.int .i64 0,.slice none 0 0] N.t_Dyads)::(sl a11 (m12*3) (c13*3) (dyC t3 hh14) N.t_Dyad)::it10::L)) ?_ h ⟨_,_,_,_,_,_,_,rfl,rfl,(AllD.nil (L:=[vd])),(hS.pick (A:=[_,_,_,_]) [1,1,0,0] rfl)⟩
  clear h hS
  rintro s w t X q ⟨t2,it10,a11,m12,c13,t3,hh14,rfl,rfl,ed15,hS⟩ h hX hO
  unfold T_w16_of_b2 at h
  try dsimp only
  obtain ⟨t4,ht4,h⟩:=bnd h
  obtain rfl:=lenE ht4 ((qz.mono tl4).now (fun _ h=>h) hS)
  refine cond_s h ?_ ?_<;>intro hc h
  ·
   refine ⟨_,_,_,hS.cel mp0 rfl,?_⟩
   obtain ⟨t5,ht5,h⟩:=bnd h
   obtain ⟨q16x,yf,q16r⟩:=atE ht5
   refine idx_s ((qz.mono tl4).now (fun _ h=>h) hS) q16x yf q16r ?_;intro b17 hb17
   refine ⟨_,rd_get ((qz.mono tl4).now (fun _ h=>h) hS) hb17 q16x,?_⟩
   refine drM_s hS ?_;intro w hS
   obtain ⟨⟨t6,t7,t8⟩,ho6,h⟩:=bnd h
   refine wk_r02_Int H hS  ho6 ?_;clear hS ho6;rintro a18 m18 c18 w hS
   refine ⟨_,_,_,_,_,rfl,?_⟩
   refine ⟨(hS.cel mp1 rfl),?_⟩
   refine drM_s hS ?_;intro w hS
   have hz19:Ent [sl a18 m18 c18 (List.map (Value.int .u64) t7) N.t_uint64] (rdA (List.map (Value.int .u64) t7) a18 m18 c18):=(Ent.sl (L:=[sl a18 m18 c18 (List.map (Value.int .u64) t7) N.t_uint64]) mp0)
   replace hS:=ro4 hS
   replace hS:=ro1 hS
   replace hS:=hS.both
   replace hz19:=Ent.both (L:=[]) (y:=it10) (hz19.mono (incl_one mp0))
   replace ed15:=AllD.both (L:=[]) (x:=(sl a18 m18 c18 (List.map (Value.int .u64) t7) N.t_uint64)) (ed15.mono (incl_one mp1))
   obtain ⟨t9,ht9,h⟩:=bnd h
   obtain rfl:([(t6,t7,t8)]:List Dy)=t9:=some_inj ht9
   have ed21:AllD [(both (sl a18 m18 c18 (List.map (Value.int .u64) t7) N.t_uint64) it10)] ([(t6,t7,t8)]:List Dy) ([(a18,m18,c18)]:List Hd):=(.cons hz19 .nil)
   refine litD_s (X:=([(t6,t7,t8)]:List Dy)) (H:=([(a18,m18,c18)]:List Hd)) (m:=1) hS rfl rfl rfl ?_;intro r20 w hS
   refine ⟨(hS.cel mp2 rfl),?_⟩
   refine drM_s hS ?_;intro w hS
   obtain ⟨t10,ht10,h⟩:=bnd h
   obtain ⟨rfl,kt10⟩:=appE ht10
   replace hS:=ro4 hS
   have ed22:=ed15.append ed21
   refine appD_s hS kt10 ed15.len ed21.len ((Ent.sl mp1).now (fun _ h=>h) hS) rfl rfl ?_;clear hS kt10;intro a22 c22 w hS
   refine drM_s hS ?_;intro w hS
   replace hS:=ro3 hS
   refine stc_s hS rfl rfl ?_;intro w hS
   refine drM_s hS ?_;intro w hS
   obtain rfl:=some_inj h
   exact hX _ rfl _ _ ⟨_,_,_,_,_,_,_,rfl,rfl,ed22,(hS.pick (A:=[_,_,_,_,_]) [0,3,0,1] rfl)⟩
  obtain rfl:=some_inj h
  have h:=congrArg some (hO _ rfl)
  obtain rfl:=some_inj h
  exact hJ9 _ _ ⟨_,_,_,_,_,_,rfl,rfl,ed15,hS⟩
 clear h9 hS
 rintro s w ⟨a3,m4,c5,t1,hh6,it8,rfl,rfl,ed7,hS⟩
 have h:=c9
 clear c9
 try dsimp only
 refine ⟨_,hS.cel mp0 rfl,_,hS.cel mp0 rfl,_,_,_,hS.cel mp0 rfl,?_⟩
 replace hS:=ro1 hS
 refine stc_s hS rfl rfl ?_;intro w hS
 refine stc_s hS rfl rfl ?_;intro w hS
 refine stc_s hS rfl rfl ?_;intro w hS
 refine ⟨_,hS.cel mp0 rfl,_,hS.cel mp0 rfl,_,_,_,hS.cel mp0 rfl,?_⟩
 cases some_inj h
 exact hK _ _ _ _ _ _ (fun _ hm=>ed7.mono (incl_one hm)) (hS.pick (A:=[_,_,_,_]) [2,2] rfl)
theorem wk_inertia_fits {q0 u0} (hS:Ho w0 w L)  (h:T_inertia_fits q0=some u0) (hK:∀ w1,Ho w0 w1 L→K (.bool u0) w1):CallsX P N.f_inertia_fits #[.int .i64 q0] w K:=by
 refine H.inertia_fits q0 w _ ?_
 unfold S_inertia_fits
 unfold T_inertia_fits at h
 try dsimp only
 refine cond_s h ?_ ?_<;>intro hc h
 ·
  cases some_inj h
  exact hK _ hS
 cases some_inj h
 exact hK _ hS
theorem wk_slices_IndexFunc___api_Dyad_api_Dyad {q0 qh qk} {H0:List Hd} {l0:List Dy} {q1:Value} {f1:Dy→Option Bool} {u0} (hS:Ho w0 w L) (qt:Ent L (rdA (dyC l0 H0) q0 (qh*3) (qk*3))) (gq0:AllD L l0 H0) (hf1:∀ (v:Dy) (a:OA) (n c:Nat) (w:World) (L1:List It) (r1:Bool) (K:KV),(∀ e,e∈L→e∈L1)→Ent L1 (rdA (List.map (Value.int .u64) v.2.1) a n c)→f1 v=some r1→Ho w0 w L1→(∀ w1:World,Ho w0 w1 L1→K (.bool r1) w1)→fnM q1 fun g gp gq=>CallsX P g (gp.toList++(([.agg #[.bool v.1,.slice a n c,.int .i64 v.2.2]]:List Value)++gq.toList)).toArray w K) (h:T_slices_IndexFunc___api_Dyad_api_Dyad l0 f1=some u0) (hK:∀ w1,Ho w0 w1 L→K (.int .i64 u0) w1):CallsX P N.f_slices_IndexFunc___api_Dyad_api_Dyad #[.slice q0 qh qk,q1] w K:=by
 refine H.slices_IndexFunc___api_Dyad_api_Dyad q0 qh qk q1 w _ ?_
 unfold S_slices_IndexFunc___api_Dyad_api_Dyad
 unfold T_slices_IndexFunc___api_Dyad_api_Dyad at h
 try dsimp only
 obtain ⟨t1,ht1,h⟩:=bnd h
 obtain rfl:=lenD ht1 gq0.len (qt.now (fun _ h=>h) hS)
 obtain ⟨o1,h1,c1⟩:=bnd h
 refine cutM_i (fun s w =>  .inl ()=o1∧s=(())∧Ho w0 w L) (fun J1 hJ1=>?_) ?_
 ·
  have h:=h1
  clear h1
  refine iter_sim (fun s w t=>∃ (t2:Int),t2=t∧s=(t2,())∧Ho w0 w L) ?_ h ⟨_,rfl,rfl,hS⟩
  clear h hS
  rintro s w t X q ⟨t2,rfl,rfl,hS⟩ h hX hO
  unfold T_slices_IndexFunc___api_Dyad_api_Dyad_b2 at h
  try dsimp only
  refine cond_s h ?_ ?_<;>intro hc h
  ·
   obtain ⟨t3,ht3,h⟩:=bnd h
   obtain ⟨gq2,q2x,q2k,vj,q2r,q2e⟩:=AllD.atE gq0 ht3
   refine idxD_s gq0.len (qt.now (fun _ h=>h) hS) vj q2r ?_;intro b3 hb3
   refine ⟨_,(rdD0 (qt.now (fun _ h=>h) hS) hb3 q2k q2x),?_⟩
   refine ⟨_,_,_,(rdD1 (qt.now (fun _ h=>h) hS) hb3 q2k q2x),?_⟩
   refine ⟨_,(rdD2 (qt.now (fun _ h=>h) hS) hb3 q2k q2x),?_⟩
   obtain ⟨t4,ht4,h⟩:=bnd h
   refine hf1 (t3.1,t3.2.1,t3.2.2) _ _ _ _ _ _ _ (fun _ h=>h) q2e ht4 hS ?_;rintro w hS
   refine ⟨_,rfl,?_⟩
   refine cond_s h ?_ ?_<;>intro hc h
   ·
    obtain rfl:=some_inj h
    have h:=congrArg some (hO _ rfl)
    obtain rfl:=some_inj h
    have h:=c1
    cases some_inj h
    exact hK _ hS
   obtain rfl:=some_inj h
   exact hX _ rfl _ _ ⟨_,rfl,rfl,hS⟩
  obtain rfl:=some_inj h
  have h:=congrArg some (hO _ rfl)
  exact hJ1 _ _ ⟨some_inj h,rfl,hS⟩
 clear h1 hS
 rintro s w ⟨rfl,rfl,hS⟩
 have h:=c1
 clear c1
 try dsimp only
 cases some_inj h
 exact hK _ hS
theorem wk_slices_ContainsFunc___api_Dyad_api_Dyad {q0 qh qk} {H0:List Hd} {l0:List Dy} {q1:Value} {f1:Dy→Option Bool} {u0} (hS:Ho w0 w L) (qt:Ent L (rdA (dyC l0 H0) q0 (qh*3) (qk*3))) (gq0:AllD L l0 H0) (hf1:∀ (v:Dy) (a:OA) (n c:Nat) (w:World) (L1:List It) (r1:Bool) (K:KV),(∀ e,e∈L→e∈L1)→Ent L1 (rdA (List.map (Value.int .u64) v.2.1) a n c)→f1 v=some r1→Ho w0 w L1→(∀ w1:World,Ho w0 w1 L1→K (.bool r1) w1)→fnM q1 fun g gp gq=>CallsX P g (gp.toList++(([.agg #[.bool v.1,.slice a n c,.int .i64 v.2.2]]:List Value)++gq.toList)).toArray w K) (h:T_slices_ContainsFunc___api_Dyad_api_Dyad l0 f1=some u0) (hK:∀ w1,Ho w0 w1 L→K (.bool u0) w1):CallsX P N.f_slices_ContainsFunc___api_Dyad_api_Dyad #[.slice q0 qh qk,q1] w K:=by
 refine H.slices_ContainsFunc___api_Dyad_api_Dyad q0 qh qk q1 w _ ?_
 unfold S_slices_ContainsFunc___api_Dyad_api_Dyad
 unfold T_slices_ContainsFunc___api_Dyad_api_Dyad at h
 try dsimp only
 obtain ⟨t1,ht1,h⟩:=bnd h
 refine wk_slices_IndexFunc___api_Dyad_api_Dyad H hS qt gq0 (fun v a n c w L1 r1 K hL=>hf1 v a n c w L1 r1 K hL) ht1 ?_;rintro w hS
 refine ⟨_,rfl,?_⟩
 cases some_inj h
 exact hK _ hS
theorem wk_dyad_Right {qe qf qb qd l0_1 qg u0} (hS:Ho w0 w L) (qm:EU L l0_1 qf qb qd) (h:T_dyad_Right qe l0_1 qg=some u0) (hK:∀ w1,Ho w0 w1 L→K (.bool u0) w1):CallsX P N.f_dyad_Right #[.agg #[.bool qe,.slice qf qb qd,.int .i64 qg]] w K:=by
 refine H.dyad_Right qe qf qb qd qg w _ ?_
 unfold S_dyad_Right
 unfold T_dyad_Right at h
 try dsimp only
 refine newM_s hS ?_;intro r1 w hS
 refine ⟨_,_,_,hS.cel mp0 rfl,?_⟩
 obtain ⟨t1,ht1,h⟩:=bnd h
 obtain rfl:=lenE ht1 ((qm.mono tl1).now (fun _ h=>h) hS)
 refine cond_s h ?_ ?_<;>intro hc h
 ·
  refine ⟨_,hS.cel mp0 rfl,?_⟩
  refine cond_s h ?_ ?_<;>intro hc h
  ·
   refine ⟨_,hS.cel mp0 rfl,?_⟩
   cases some_inj h
   exact hK _ (hS.pick (A:=[_]) [] rfl)
  cases some_inj h
  exact hK _ (hS.pick (A:=[_]) [] rfl)
 refine cond_s h ?_ ?_<;>intro hc h
 ·
  refine ⟨_,_,_,hS.cel mp0 rfl,?_⟩
  obtain ⟨t2,ht2,h⟩:=bnd h
  obtain ⟨q2x,vj,q2r⟩:=atE ht2
  refine idx_s ((qm.mono tl1).now (fun _ h=>h) hS) q2x vj q2r ?_;intro b3 hb3
  refine ⟨_,rd_get ((qm.mono tl1).now (fun _ h=>h) hS) hb3 q2x,?_⟩
  refine cond_s h ?_ ?_<;>intro hc h
  ·
   refine ⟨_,_,_,hS.cel mp0 rfl,?_⟩
   obtain ⟨t3,ht3,h⟩:=bnd h
   obtain ⟨q4x,vq,q4r⟩:=atE ht3
   refine idx_s ((qm.mono tl1).now (fun _ h=>h) hS) q4x vq q4r ?_;intro b5 hb5
   refine ⟨_,rd_get ((qm.mono tl1).now (fun _ h=>h) hS) hb5 q4x,?_⟩
   refine cond_s h ?_ ?_<;>intro hc h
   ·
    refine ⟨_,hS.cel mp0 rfl,?_⟩
    refine cond_s h ?_ ?_<;>intro hc h
    ·
     refine ⟨_,hS.cel mp0 rfl,?_⟩
     cases some_inj h
     exact hK _ (hS.pick (A:=[_]) [] rfl)
    cases some_inj h
    exact hK _ (hS.pick (A:=[_]) [] rfl)
   cases some_inj h
   exact hK _ (hS.pick (A:=[_]) [] rfl)
  cases some_inj h
  exact hK _ (hS.pick (A:=[_]) [] rfl)
 cases some_inj h
 exact hK _ (hS.pick (A:=[_]) [] rfl)
theorem wk_inertia_Right_1 {qe qf qb qd l0_1 qg u0} (hS:Ho w0 w L) (qm:EU L l0_1 qf qb qd) (h:T_inertia_Right_1 qe l0_1 qg=some u0) (hK:∀ w1,Ho w0 w1 L→K (.bool u0) w1):CallsX P N.f_inertia_Right_1 #[.agg #[.bool qe,.slice qf qb qd,.int .i64 qg]] w K:=by
 refine H.inertia_Right_1 qe qf qb qd qg w _ ?_
 unfold S_inertia_Right_1
 unfold T_inertia_Right_1 at h
 try dsimp only
 refine newM_s hS ?_;intro r1 w hS
 refine ⟨_,hS.cel mp0 rfl,_,_,_,hS.cel mp0 rfl,_,hS.cel mp0 rfl,?_⟩
 obtain ⟨t1,ht1,h⟩:=bnd h
 refine wk_dyad_Right H hS (qm.mono tl1) ht1 ?_;rintro w hS
 refine ⟨_,rfl,?_⟩
 cases some_inj h
 exact hK _ (hS.pick (A:=[_]) [] rfl)
theorem wk_inertia_Right {qe qf qg qo qp} {H0_2:List Hd} {l0_2:List Dy} {u0} (hS:Ho w0 w L) (qy:Ent L (rdA (dyC l0_2 H0_2) qg (qo*3) (qp*3))) (gq0_2:AllD L l0_2 H0_2) (hx:T_inertia_Right qe qf l0_2=some u0) (hK:∀ w1,Ho w0 w1 L→K (.bool u0) w1):CallsX P N.f_inertia_Right #[.agg #[.int .i64 qe,.int .i64 qf,.slice qg qo qp]] w K:=by
 refine H.inertia_Right qe qf qg qo qp w _ ?_
 unfold S_inertia_Right
 unfold T_inertia_Right at hx
 have h:=hx
 clear hx
 try dsimp only
 refine newM_s hS ?_;intro r1 w hS
 refine ⟨_,hS.cel mp0 rfl,?_⟩
 obtain ⟨t1,ht1,h⟩:=bnd h
 refine wk_inertia_fits H hS  ht1 ?_;rintro w hS
 refine ⟨_,rfl,?_⟩
 refine cond_s h ?_ ?_<;>intro hc h
 ·
  refine ⟨_,hS.cel mp0 rfl,?_⟩
  obtain ⟨t2,ht2,h⟩:=bnd h
  refine wk_inertia_fits H hS  ht2 ?_;rintro w hS
  refine ⟨_,rfl,?_⟩
  refine cond_s h ?_ ?_<;>intro hc h
  ·
   refine ⟨_,_,_,hS.cel mp0 rfl,?_⟩
   obtain ⟨t3,ht3,h⟩:=bnd h
   obtain rfl:=lenD ht3 gq0_2.len ((qy.mono tl1).now (fun _ h=>h) hS)
   refine ⟨_,hS.cel mp0 rfl,_,hS.cel mp0 rfl,?_⟩
   refine cond_s h ?_ ?_<;>intro hc h
   ·
    refine ⟨_,_,_,hS.cel mp0 rfl,?_⟩
    obtain ⟨t4,ht4,h⟩:=bnd h
    refine wk_slices_ContainsFunc___api_Dyad_api_Dyad H hS (qy.mono tl1) (gq0_2.mono tl1) (by intro v a n c w L1 r1 K hL hE hx hS hK;exact wk_inertia_Right_1 H hS hE hx hK) ht4 ?_;rintro w hS
    refine ⟨_,rfl,?_⟩
    cases some_inj h
    exact hK _ (hS.pick (A:=[_]) [] rfl)
   cases some_inj h
   exact hK _ (hS.pick (A:=[_]) [] rfl)
  cases some_inj h
  exact hK _ (hS.pick (A:=[_]) [] rfl)
 cases some_inj h
 exact hK _ (hS.pick (A:=[_]) [] rfl)
theorem wk_dyad_Sign {qe qf qb qd l0_1 qg u0 u1} (hS:Ho w0 w L) (qm:EU L l0_1 qf qb qd) (h:T_dyad_Sign qe l0_1 qg=some (u0,u1)) (hK:∀ w1,Ho w0 w1 L→K (.tuple #[.int .i64 u0,.int .i64 u1]) w1):CallsX P N.f_dyad_Sign #[.agg #[.bool qe,.slice qf qb qd,.int .i64 qg]] w K:=by
 refine H.dyad_Sign qe qf qb qd qg w _ ?_
 unfold S_dyad_Sign
 unfold T_dyad_Sign at h
 try dsimp only
 refine newM_s hS ?_;intro r1 w hS
 refine ⟨_,hS.cel mp0 rfl,_,_,_,hS.cel mp0 rfl,_,hS.cel mp0 rfl,?_⟩
 obtain ⟨t1,ht1,h⟩:=bnd h
 refine wk_dyad_Right H hS (qm.mono tl1) ht1 ?_;rintro w hS
 refine ⟨_,rfl,?_⟩
 refine cond_s h ?_ ?_<;>intro hc h
 ·
  cases some_inj h
  exact hK _ (hS.pick (A:=[_]) [] rfl)
 refine ⟨_,_,_,hS.cel mp0 rfl,?_⟩
 obtain ⟨t2,ht2,h⟩:=bnd h
 obtain rfl:=lenE ht2 ((qm.mono tl1).now (fun _ h=>h) hS)
 refine cond_s h ?_ ?_<;>intro hc h
 ·
  cases some_inj h
  exact hK _ (hS.pick (A:=[_]) [] rfl)
 refine ⟨_,hS.cel mp0 rfl,?_⟩
 refine cond_s h ?_ ?_<;>intro hc h
 ·
  cases some_inj h
  exact hK _ (hS.pick (A:=[_]) [] rfl)
 cases some_inj h
 exact hK _ (hS.pick (A:=[_]) [] rfl)
theorem wk_math_bits_Len64 {q0 u0} (hS:Ho w0 w L)  (hx:T_math_bits_Len64 q0=some u0) (hK:∀ w1,Ho w0 w1 L→K (.int .i64 u0) w1):CallsX P N.f_math_bits_Len64 #[.int .u64 q0] w K:=by
 unfold T_math_bits_Len64 at hx
 by_cases hd:0≤q0∧q0≤18446744073709551615
 ·
  rw [decide_eq_true hd] at hx
  have hx:=some_inj hx
  subst hx
  exact len64_c H hS hd.1 hd.2 hK
 rw [decide_eq_false hd] at hx;cases hx
theorem wk_dyad_top {qe qf qb qd l0_1 qg u0} (hS:Ho w0 w L) (qm:EU L l0_1 qf qb qd) (h:T_dyad_top qe l0_1 qg=some u0) (hK:∀ w1,Ho w0 w1 L→K (.int .i64 u0) w1):CallsX P N.f_dyad_top #[.agg #[.bool qe,.slice qf qb qd,.int .i64 qg]] w K:=by
 refine H.dyad_top qe qf qb qd qg w _ ?_
 unfold S_dyad_top
 unfold T_dyad_top at h
 try dsimp only
 refine newM_s hS ?_;intro r1 w hS
 refine ⟨_,_,_,hS.cel mp0 rfl,?_⟩
 obtain ⟨t1,ht1,h⟩:=bnd h
 obtain rfl:=lenE ht1 ((qm.mono tl1).now (fun _ h=>h) hS)
 refine ⟨_,hS.cel mp0 rfl,_,_,_,hS.cel mp0 rfl,?_⟩
 obtain ⟨t2,ht2,h⟩:=bnd h
 obtain ⟨q2x,vj,q2r⟩:=atE ht2
 refine idx_s ((qm.mono tl1).now (fun _ h=>h) hS) q2x vj q2r ?_;intro b3 hb3
 refine ⟨_,rd_get ((qm.mono tl1).now (fun _ h=>h) hS) hb3 q2x,?_⟩
 refine drM_s hS ?_;intro w hS
 obtain ⟨t3,ht3,h⟩:=bnd h
 refine wk_math_bits_Len64 H hS  ht3 ?_;rintro w hS
 refine ⟨_,rfl,?_⟩
 refine ⟨(hS.cel mp0 rfl),?_⟩
 refine drM_s hS ?_;intro w hS
 cases some_inj h
 exact hK _ (hS.pick (A:=[_]) [] rfl)
theorem wk_dyad_whole {qe qf qb qd l0_1 qg u0} (hS:Ho w0 w L) (qm:EU L l0_1 qf qb qd) (h:T_dyad_whole qe l0_1 qg=some u0) (hK:∀ (r0:Nat) (a0:OA) (n0 c0:Nat) (w1:World),Ho w0 w1 ((bg N.t_bn_Int N.t_uint32 r0 a0 n0 c0 u0)::L)→K (.pointer (some ⟨r0,0,none⟩)) w1):CallsX P N.f_dyad_whole #[.agg #[.bool qe,.slice qf qb qd,.int .i64 qg]] w K:=by
 refine H.dyad_whole qe qf qb qd qg w _ ?_
 unfold S_dyad_whole
 unfold T_dyad_whole at h
 try dsimp only
 refine newM_s hS ?_;intro r1 w hS
 refine newM_s hS ?_;intro r2 w hS;replace hS:=Ho.bgNew (E:=N.t_uint32) hS
 refine ⟨_,_,_,hS.cel mp1 rfl,?_⟩
 obtain ⟨t1,ht1,h⟩:=bnd h
 obtain rfl:=lenE ht1 ((qm.mono tl2).now (fun _ h=>h) hS)
 obtain ⟨o6,h6,c6⟩:=bnd h
 refine cutM_i (fun s w=>∃ (a3:OA) (m4:Nat) (c5:Nat) (t2:Int),t2=o6∧s=(())∧Ho w0 w ((bg N.t_bn_Int N.t_uint32 r2 a3 m4 c5 t2)::(cl r1 [.bool qe,.slice qf qb qd,.int .i64 qg] N.t_Dyad)::L)) (fun J6 hJ6=>?_) ?_
 ·
  have h:=h6
  clear h6
  refine iter_sim (fun s w t=>∃ (t3:Int) (a7:OA) (m8:Nat) (c9:Nat) (t4:Int),(t3,t4)=t∧s=(t3,())∧Ho w0 w ((bg N.t_bn_Int N.t_uint32 r2 a7 m8 c9 t4)::(cl r1 [.bool qe,.slice qf qb qd,.int .i64 qg] N.t_Dyad)::L)) ?_ h ⟨_,_,_,_,_,rfl,rfl,hS⟩
  clear h hS
  rintro s w t X q ⟨t3,a7,m8,c9,t4,rfl,rfl,hS⟩ h hX hO
  unfold T_dyad_whole_b2 at h
  try dsimp only
  refine cond_s h ?_ ?_<;>intro hc h
  ·
   obtain ⟨t5,ht5,h⟩:=bnd h
   refine big_Lsh_zz H hS  ht5 ?_;intro a10 m10 c10 w hS
   refine ⟨_,rfl,?_⟩
   refine newM_s hS ?_;intro r11 w hS;replace hS:=Ho.bgNew (E:=N.t_uint32) hS
   refine ⟨_,_,_,hS.cel mp2 rfl,_,_,_,hS.cel mp2 rfl,?_⟩
   obtain ⟨t6,ht6,h⟩:=bnd h
   obtain rfl:=lenE ht6 ((qm.mono tl3).now (fun _ h=>h) hS)
   obtain ⟨t7,ht7,h⟩:=bnd h
   obtain ⟨q12x,yg,q12r⟩:=atE ht7
   refine idx_s ((qm.mono tl3).now (fun _ h=>h) hS) q12x yg q12r ?_;intro b13 hb13
   refine ⟨_,rd_get ((qm.mono tl3).now (fun _ h=>h) hS) hb13 q12x,?_⟩
   obtain ⟨t8,ht8,h⟩:=bnd h
   refine big_SetUint64_z H hS  ht8 ?_;intro a14 m14 c14 w hS
   refine ⟨_,rfl,?_⟩
   obtain ⟨t9,ht9,h⟩:=bnd h
   replace hS:=ro1 hS
   refine big_Or_zzy H hS (Ent.bg mp0) ht9 ?_;intro a15 m15 c15 w hS
   refine ⟨_,rfl,?_⟩
   obtain rfl:=some_inj h
   exact hX _ rfl _ _ ⟨_,_,_,_,_,rfl,rfl,(hS.pick (A:=[_,_,_]) [0,1] rfl)⟩
  obtain rfl:=some_inj h
  have h:=congrArg some (hO _ rfl)
  exact hJ6 _ _ ⟨_,_,_,_,some_inj h,rfl,hS⟩
 clear h6 hS
 rintro s w ⟨a3,m4,c5,t2,rfl,rfl,hS⟩
 have h:=c6
 clear c6
 try dsimp only
 refine ⟨_,hS.cel mp1 rfl,?_⟩
 obtain ⟨o19,h19,c19⟩:=bnd h
 refine cutM_i (fun s w=>∃ (a16:OA) (m17:Nat) (c18:Nat) (t10:Int),t10=o19∧s=(())∧Ho w0 w ((bg N.t_bn_Int N.t_uint32 r2 a16 m17 c18 t10)::L)) (fun J19 hJ19=>?_) ?_
 ·
  have h:=h19
  clear h19
  refine cond_s h ?_ ?_<;>intro hc h
  ·
   obtain ⟨t11,ht11,h⟩:=bnd h
   refine big_Neg_zz H hS  ht11 ?_;intro a20 m20 c20 w hS
   refine ⟨_,rfl,?_⟩
   obtain rfl:=some_inj h
   exact hJ19 _ _ ⟨_,_,_,_,rfl,rfl,(hS.pick (A:=[_,_]) [0] rfl)⟩
  obtain rfl:=some_inj h
  exact hJ19 _ _ ⟨_,_,_,_,rfl,rfl,(hS.pick (A:=[_,_]) [0] rfl)⟩
 clear h19 hS
 rintro s w ⟨a16,m17,c18,t10,rfl,rfl,hS⟩
 have h:=c19
 clear c19
 try dsimp only
 cases some_inj h
 exact hK _ _ _ _ _ hS
theorem wk_dyad_Cmp {qe qf qb qd l0_1 qg qq qr qi qj l1_1 qw u0 u1} (hS:Ho w0 w L) (qm:EU L l0_1 qf qb qd) (qu:EU L l1_1 qr qi qj) (h:T_dyad_Cmp qe l0_1 qg qq l1_1 qw=some (u0,u1)) (hK:∀ w1,Ho w0 w1 L→K (.tuple #[.int .i64 u0,.int .i64 u1]) w1):CallsX P N.f_dyad_Cmp #[.agg #[.bool qe,.slice qf qb qd,.int .i64 qg],.agg #[.bool qq,.slice qr qi qj,.int .i64 qw]] w K:=by
 refine H.dyad_Cmp qe qf qb qd qg qq qr qi qj qw w _ ?_
 unfold S_dyad_Cmp
 unfold T_dyad_Cmp at h
 try dsimp only
 refine newM_s hS ?_;intro r1 w hS
 refine newM_s hS ?_;intro r2 w hS
 refine ⟨_,hS.cel mp1 rfl,_,_,_,hS.cel mp1 rfl,_,hS.cel mp1 rfl,?_⟩
 obtain ⟨⟨t1,t2⟩,ho1,h⟩:=bnd h
 refine wk_dyad_Sign H hS (qm.mono tl2) ho1 ?_;clear hS ho1;rintro w hS
 refine ⟨_,_,rfl,?_⟩
 refine ⟨_,hS.cel mp0 rfl,_,_,_,hS.cel mp0 rfl,_,hS.cel mp0 rfl,?_⟩
 obtain ⟨⟨t3,t4⟩,ho3,h⟩:=bnd h
 refine wk_dyad_Sign H hS (qu.mono tl2) ho3 ?_;clear hS ho3;rintro w hS
 refine ⟨_,_,rfl,?_⟩
 obtain ⟨o3,h3,c3⟩:=bnd h
 refine cutM_i (fun s w=>∃ (t5:Bool),t5=o3∧s=(t5,())∧Ho w0 w ((cl r2 [.bool qq,.slice qr qi qj,.int .i64 qw] N.t_Dyad)::(cl r1 [.bool qe,.slice qf qb qd,.int .i64 qg] N.t_Dyad)::L)) (fun J3 hJ3=>?_) ?_
 ·
  have h:=h3
  clear h3
  refine cond_s h ?_ ?_<;>intro hc h
  ·
   exact hJ3 _ _ ⟨_,some_inj h,rfl,hS⟩
  exact hJ3 _ _ ⟨_,some_inj h,rfl,hS⟩
 clear h3 hS
 rintro s w ⟨t5,rfl,rfl,hS⟩
 have h:=c3
 clear c3
 try dsimp only
 refine cond_s h ?_ ?_<;>intro hc h
 ·
  cases some_inj h
  exact hK _ (hS.pick (A:=[_,_]) [] rfl)
 refine cond_s h ?_ ?_<;>intro hc h
 ·
  refine cond_s h ?_ ?_<;>intro hc h
  ·
   cases some_inj h
   exact hK _ (hS.pick (A:=[_,_]) [] rfl)
  cases some_inj h
  exact hK _ (hS.pick (A:=[_,_]) [] rfl)
 refine cond_s h ?_ ?_<;>intro hc h
 ·
  cases some_inj h
  exact hK _ (hS.pick (A:=[_,_]) [] rfl)
 refine ⟨_,hS.cel mp1 rfl,_,_,_,hS.cel mp1 rfl,_,hS.cel mp1 rfl,_,hS.cel mp0 rfl,_,_,_,hS.cel mp0 rfl,_,hS.cel mp0 rfl,?_⟩
 refine drM_s hS ?_;intro w hS
 obtain ⟨t6,ht6,h⟩:=bnd h
 refine wk_dyad_top H hS (qm.mono tl2) ht6 ?_;rintro w hS
 refine ⟨_,rfl,?_⟩
 refine ⟨(hS.cel mp0 rfl),?_⟩
 refine ⟨(hS.cel mp0 rfl),?_⟩
 refine ⟨(hS.cel mp0 rfl),?_⟩
 refine drM_s hS ?_;intro w hS
 obtain ⟨t7,ht7,h⟩:=bnd h
 refine wk_dyad_top H hS (qu.mono tl2) ht7 ?_;rintro w hS
 refine ⟨_,rfl,?_⟩
 refine drM_s hS ?_;intro w hS
 refine cond_s h ?_ ?_<;>intro hc h
 ·
  refine ⟨_,hS.cel mp1 rfl,_,_,_,hS.cel mp1 rfl,_,hS.cel mp1 rfl,_,hS.cel mp0 rfl,_,_,_,hS.cel mp0 rfl,_,hS.cel mp0 rfl,?_⟩
  refine drM_s hS ?_;intro w hS
  obtain ⟨t8,ht8,h⟩:=bnd h
  refine wk_dyad_top H hS (qm.mono tl2) ht8 ?_;rintro w hS
  refine ⟨_,rfl,?_⟩
  refine ⟨(hS.cel mp0 rfl),?_⟩
  refine ⟨(hS.cel mp0 rfl),?_⟩
  refine ⟨(hS.cel mp0 rfl),?_⟩
  refine drM_s hS ?_;intro w hS
  obtain ⟨t9,ht9,h⟩:=bnd h
  refine wk_dyad_top H hS (qu.mono tl2) ht9 ?_;rintro w hS
  refine ⟨_,rfl,?_⟩
  refine drM_s hS ?_;intro w hS
  refine cond_s h ?_ ?_<;>intro hc h
  ·
   cases some_inj h
   exact hK _ (hS.pick (A:=[_,_]) [] rfl)
  cases some_inj h
  exact hK _ (hS.pick (A:=[_,_]) [] rfl)
 refine ⟨_,hS.cel mp1 rfl,_,_,_,hS.cel mp1 rfl,_,hS.cel mp1 rfl,_,hS.cel mp0 rfl,_,_,_,hS.cel mp0 rfl,_,hS.cel mp0 rfl,?_⟩
 refine drM_s hS ?_;intro w hS
 obtain ⟨t10,ht10,h⟩:=bnd h
 refine wk_dyad_whole H hS (qm.mono tl2) ht10 ?_;rintro r4 a4 m4 c4 w hS
 refine ⟨_,rfl,?_⟩
 refine ⟨(hS.cel mp1 rfl),?_⟩
 refine ⟨(hS.cel mp1 rfl),?_⟩
 refine ⟨(hS.cel mp1 rfl),?_⟩
 refine drM_s hS ?_;intro w hS
 obtain ⟨t11,ht11,h⟩:=bnd h
 refine wk_dyad_whole H hS (qu.mono tl3) ht11 ?_;rintro r5 a5 m5 c5 w hS
 refine ⟨_,rfl,?_⟩
 refine drM_s hS ?_;intro w hS
 refine ⟨_,hS.cel mp3 rfl,_,hS.cel mp2 rfl,?_⟩
 obtain ⟨o12,h12,c12⟩:=bnd h
 refine cutM_i (fun s w=>∃ (a6:OA) (m7:Nat) (c8:Nat) (t12:Int) (a9:OA) (m10:Nat) (c11:Nat) (t13:Int),(t12,t13)=o12∧s=(())∧Ho w0 w ((bg N.t_bn_Int N.t_uint32 r4 a6 m7 c8 t12)::(bg N.t_bn_Int N.t_uint32 r5 a9 m10 c11 t13)::L)) (fun J12 hJ12=>?_) ?_
 ·
  have h:=h12
  clear h12
  refine cond_s h ?_ ?_<;>intro hc h
  ·
   refine ⟨_,hS.cel mp3 rfl,_,hS.cel mp2 rfl,?_⟩
   obtain ⟨t14,ht14,h⟩:=bnd h
   replace hS:=ro1 hS
   refine big_Lsh_zz H hS  ht14 ?_;intro a13 m13 c13 w hS
   refine ⟨_,rfl,?_⟩
   obtain rfl:=some_inj h
   exact hJ12 _ _ ⟨_,_,_,_,_,_,_,_,rfl,rfl,(hS.pick (A:=[_,_,_,_]) [0,0] rfl)⟩
  refine ⟨_,hS.cel mp2 rfl,_,hS.cel mp3 rfl,?_⟩
  obtain ⟨t15,ht15,h⟩:=bnd h
  refine big_Lsh_zz H hS  ht15 ?_;intro a14 m14 c14 w hS
  refine ⟨_,rfl,?_⟩
  obtain rfl:=some_inj h
  exact hJ12 _ _ ⟨_,_,_,_,_,_,_,_,rfl,rfl,(hS.pick (A:=[_,_,_,_]) [1,0] rfl)⟩
 clear h12 hS
 rintro s w ⟨a6,m7,c8,t12,a9,m10,c11,t13,rfl,rfl,hS⟩
 have h:=c12
 clear c12
 try dsimp only
 obtain ⟨t16,ht16,h⟩:=bnd h
 refine big_Cmp_xy H hS (Ent.bg mp0) (Ent.bg mp1) ht16 ?_;intro w hS
 refine ⟨_,rfl,?_⟩
 cases some_inj h
 exact hK _ (hS.pick (A:=[_,_]) [] rfl)
theorem wk_inertia_Symmetric {qe qf qg qo qp} {H0_2:List Hd} {l0_2:List Dy} {u0} (hS:Ho w0 w L) (qy:Ent L (rdA (dyC l0_2 H0_2) qg (qo*3) (qp*3))) (gq0_2:AllD L l0_2 H0_2) (h:T_inertia_Symmetric qe qf l0_2=some u0) (hK:∀ w1,Ho w0 w1 L→K (.bool u0) w1):CallsX P N.f_inertia_Symmetric #[.agg #[.int .i64 qe,.int .i64 qf,.slice qg qo qp]] w K:=by
 refine H.inertia_Symmetric qe qf qg qo qp w _ ?_
 unfold S_inertia_Symmetric
 unfold T_inertia_Symmetric at h
 try dsimp only
 refine newM_s hS ?_;intro r1 w hS
 obtain ⟨o2,h2,c2⟩:=bnd h
 refine cutM_i (fun s w=>∃ (t1:Bool),t1=o2∧s=(t1,())∧Ho w0 w ((cl r1 [.int .i64 qe,.int .i64 qf,.slice qg qo qp] N.t_Dyads)::L)) (fun J2 hJ2=>?_) ?_
 ·
  have h:=h2
  clear h2
  refine ⟨_,hS.cel mp0 rfl,_,hS.cel mp0 rfl,_,_,_,hS.cel mp0 rfl,?_⟩
  obtain ⟨t2,ht2,h⟩:=bnd h
  refine wk_inertia_Right H hS (qy.mono tl1) (gq0_2.mono tl1) ht2 ?_;rintro w hS
  refine ⟨_,rfl,?_⟩
  refine cond_s h ?_ ?_<;>intro hc h
  ·
   refine ⟨_,hS.cel mp0 rfl,_,hS.cel mp0 rfl,?_⟩
   exact hJ2 _ _ ⟨_,some_inj h,rfl,hS⟩
  exact hJ2 _ _ ⟨_,some_inj h,rfl,hS⟩
 clear h2 hS
 rintro s w ⟨t1,rfl,rfl,hS⟩
 have h:=c2
 clear c2
 try dsimp only
 refine cond_s h ?_ ?_<;>intro hc h
 ·
  cases some_inj h
  exact hK _ (hS.pick (A:=[_]) [] rfl)
 refine ⟨_,hS.cel mp0 rfl,?_⟩
 obtain ⟨o3,h3,c3⟩:=bnd h
 refine cutM_i (fun s w =>  .inl ()=o3∧s=(())∧Ho w0 w L) (fun J3 hJ3=>?_) ?_
 ·
  have h:=h3
  clear h3
  refine iter_sim (fun s w t=>∃ (t3:Int),t3=t∧s=(t3,())∧Ho w0 w ((cl r1 [.int .i64 qe,.int .i64 qf,.slice qg qo qp] N.t_Dyads)::L)) ?_ h ⟨_,rfl,rfl,hS⟩
  clear h hS
  rintro s w t X q ⟨t3,rfl,rfl,hS⟩ h hX hO
  unfold T_inertia_Symmetric_b5 at h
  try dsimp only
  refine cond_s h ?_ ?_<;>intro hc h
  ·
   obtain ⟨o4,h4,c4⟩:=bnd h
   refine cutM_i (fun s w =>  .inl ()=o4∧s=(())∧Ho w0 w ((cl r1 [.int .i64 qe,.int .i64 qf,.slice qg qo qp] N.t_Dyads)::L)) (fun J4 hJ4=>?_) ?_
   ·
    have h:=h4
    clear h4
    refine iter_sim (fun s w t=>∃ (t4:Int),t4=t∧s=(t4,())∧Ho w0 w ((cl r1 [.int .i64 qe,.int .i64 qf,.slice qg qo qp] N.t_Dyads)::L)) ?_ h ⟨_,rfl,rfl,hS⟩
    clear h hS
    rintro s w t X q ⟨t4,rfl,rfl,hS⟩ h hX hO
    unfold T_inertia_Symmetric_b7 at h
    try dsimp only
    refine cond_s h ?_ ?_<;>intro hc h
    ·
     refine ⟨_,_,_,hS.cel mp0 rfl,_,hS.cel mp0 rfl,?_⟩
     obtain ⟨t5,ht5,h⟩:=bnd h
     obtain ⟨gq5,q5x,q5k,vp,q5r,q5e⟩:=AllD.atE gq0_2 ht5
     refine idxD_s gq0_2.len ((qy.mono tl1).now (fun _ h=>h) hS) vp q5r ?_;intro b6 hb6
     refine ⟨_,(rdD0 ((qy.mono tl1).now (fun _ h=>h) hS) hb6 q5k q5x),?_⟩
     refine ⟨_,_,_,(rdD1 ((qy.mono tl1).now (fun _ h=>h) hS) hb6 q5k q5x),?_⟩
     refine ⟨_,(rdD2 ((qy.mono tl1).now (fun _ h=>h) hS) hb6 q5k q5x),?_⟩
     refine ⟨_,_,_,hS.cel mp0 rfl,_,hS.cel mp0 rfl,?_⟩
     obtain ⟨t6,ht6,h⟩:=bnd h
     obtain ⟨gq7,q7x,q7k,vz,q7r,q7e⟩:=AllD.atE gq0_2 ht6
     refine idxD_s gq0_2.len ((qy.mono tl1).now (fun _ h=>h) hS) vz q7r ?_;intro b8 hb8
     refine ⟨_,(rdD0 ((qy.mono tl1).now (fun _ h=>h) hS) hb8 q7k q7x),?_⟩
     refine ⟨_,_,_,(rdD1 ((qy.mono tl1).now (fun _ h=>h) hS) hb8 q7k q7x),?_⟩
     refine ⟨_,(rdD2 ((qy.mono tl1).now (fun _ h=>h) hS) hb8 q7k q7x),?_⟩
     refine drM_s hS ?_;intro w hS
     obtain ⟨⟨t7,t8⟩,ho7,h⟩:=bnd h
     refine wk_dyad_Cmp H hS (q5e.mono tl1) (q7e.mono tl1) ho7 ?_;clear hS ho7;rintro w hS
     refine ⟨_,_,rfl,?_⟩
     refine drM_s hS ?_;intro w hS
     refine cond_s h ?_ ?_<;>intro hc h
     ·
      obtain rfl:=some_inj h
      have h:=congrArg some (hO _ rfl)
      obtain rfl:=some_inj h
      have h:=c4
      obtain rfl:=some_inj h
      have h:=congrArg some (hO _ rfl)
      obtain rfl:=some_inj h
      have h:=c3
      cases some_inj h
      exact hK _ (hS.pick (A:=[_]) [] rfl)
     obtain rfl:=some_inj h
     exact hX _ rfl _ _ ⟨_,rfl,rfl,hS⟩
    obtain rfl:=some_inj h
    have h:=congrArg some (hO _ rfl)
    exact hJ4 _ _ ⟨some_inj h,rfl,hS⟩
   clear h4 hS
   rintro s w ⟨rfl,rfl,hS⟩
   have h:=c4
   clear c4
   try dsimp only
   obtain rfl:=some_inj h
   exact hX _ rfl _ _ ⟨_,rfl,rfl,hS⟩
  obtain rfl:=some_inj h
  have h:=congrArg some (hO _ rfl)
  obtain rfl:=some_inj h
  exact hJ3 _ _ ⟨rfl,rfl,(hS.pick (A:=[_]) [] rfl)⟩
 clear h3 hS
 rintro s w ⟨rfl,rfl,hS⟩
 have h:=c3
 clear c3
 try dsimp only
 cases some_inj h
 exact hK _ hS
theorem wk_inertia_whole {qe qf qb qd l0_1 qg q1 u0} (hS:Ho w0 w L) (qm:EU L l0_1 qf qb qd) (h:T_inertia_whole qe l0_1 qg q1=some u0) (hK:∀ (r0:Nat) (a0:OA) (n0 c0:Nat) (w1:World),Ho w0 w1 ((bg N.t_bn_Int N.t_uint32 r0 a0 n0 c0 u0)::L)→K (.pointer (some ⟨r0,0,none⟩)) w1):CallsX P N.f_inertia_whole #[.agg #[.bool qe,.slice qf qb qd,.int .i64 qg],.int .i64 q1] w K:=by
 refine H.inertia_whole qe qf qb qd qg q1 w _ ?_
 unfold S_inertia_whole
 unfold T_inertia_whole at h
 try dsimp only
 refine newM_s hS ?_;intro r1 w hS
 refine newM_s hS ?_;intro r2 w hS;replace hS:=Ho.bgNew (E:=N.t_uint32) hS
 refine ⟨_,_,_,hS.cel mp1 rfl,?_⟩
 obtain ⟨t1,ht1,h⟩:=bnd h
 obtain rfl:=lenE ht1 ((qm.mono tl2).now (fun _ h=>h) hS)
 refine cond_s h ?_ ?_<;>intro hc h
 ·
  cases some_inj h
  exact hK _ _ _ _ _ (hS.pick (A:=[_,_]) [0] rfl)
 refine ⟨_,_,_,hS.cel mp1 rfl,?_⟩
 obtain ⟨t2,ht2,h⟩:=bnd h
 obtain rfl:=lenE ht2 ((qm.mono tl2).now (fun _ h=>h) hS)
 obtain ⟨o6,h6,c6⟩:=bnd h
 refine cutM_i (fun s w=>∃ (a3:OA) (m4:Nat) (c5:Nat) (t3:Int),t3=o6∧s=(())∧Ho w0 w ((bg N.t_bn_Int N.t_uint32 r2 a3 m4 c5 t3)::(cl r1 [.bool qe,.slice qf qb qd,.int .i64 qg] N.t_Dyad)::L)) (fun J6 hJ6=>?_) ?_
 ·
  have h:=h6
  clear h6
  refine iter_sim (fun s w t=>∃ (t4:Int) (a7:OA) (m8:Nat) (c9:Nat) (t5:Int),(t4,t5)=t∧s=(t4,())∧Ho w0 w ((bg N.t_bn_Int N.t_uint32 r2 a7 m8 c9 t5)::(cl r1 [.bool qe,.slice qf qb qd,.int .i64 qg] N.t_Dyad)::L)) ?_ h ⟨_,_,_,_,_,rfl,rfl,hS⟩
  clear h hS
  rintro s w t X q ⟨t4,a7,m8,c9,t5,rfl,rfl,hS⟩ h hX hO
  unfold T_inertia_whole_b2 at h
  try dsimp only
  refine cond_s h ?_ ?_<;>intro hc h
  ·
   obtain ⟨t6,ht6,h⟩:=bnd h
   refine big_Lsh_zz H hS  ht6 ?_;intro a10 m10 c10 w hS
   refine ⟨_,rfl,?_⟩
   refine newM_s hS ?_;intro r11 w hS;replace hS:=Ho.bgNew (E:=N.t_uint32) hS
   refine ⟨_,_,_,hS.cel mp2 rfl,_,_,_,hS.cel mp2 rfl,?_⟩
   obtain ⟨t7,ht7,h⟩:=bnd h
   obtain rfl:=lenE ht7 ((qm.mono tl3).now (fun _ h=>h) hS)
   obtain ⟨t8,ht8,h⟩:=bnd h
   obtain ⟨q12x,yg,q12r⟩:=atE ht8
   refine idx_s ((qm.mono tl3).now (fun _ h=>h) hS) q12x yg q12r ?_;intro b13 hb13
   refine ⟨_,rd_get ((qm.mono tl3).now (fun _ h=>h) hS) hb13 q12x,?_⟩
   obtain ⟨t9,ht9,h⟩:=bnd h
   refine big_SetUint64_z H hS  ht9 ?_;intro a14 m14 c14 w hS
   refine ⟨_,rfl,?_⟩
   obtain ⟨t10,ht10,h⟩:=bnd h
   replace hS:=ro1 hS
   refine big_Or_zzy H hS (Ent.bg mp0) ht10 ?_;intro a15 m15 c15 w hS
   refine ⟨_,rfl,?_⟩
   obtain rfl:=some_inj h
   exact hX _ rfl _ _ ⟨_,_,_,_,_,rfl,rfl,(hS.pick (A:=[_,_,_]) [0,1] rfl)⟩
  obtain rfl:=some_inj h
  have h:=congrArg some (hO _ rfl)
  exact hJ6 _ _ ⟨_,_,_,_,some_inj h,rfl,hS⟩
 clear h6 hS
 rintro s w ⟨a3,m4,c5,t3,rfl,rfl,hS⟩
 have h:=c6
 clear c6
 try dsimp only
 refine ⟨_,hS.cel mp1 rfl,?_⟩
 obtain ⟨o19,h19,c19⟩:=bnd h
 refine cutM_i (fun s w=>∃ (a16:OA) (m17:Nat) (c18:Nat) (t11:Int),t11=o19∧s=(())∧Ho w0 w ((bg N.t_bn_Int N.t_uint32 r2 a16 m17 c18 t11)::(cl r1 [.bool qe,.slice qf qb qd,.int .i64 qg] N.t_Dyad)::L)) (fun J19 hJ19=>?_) ?_
 ·
  have h:=h19
  clear h19
  refine cond_s h ?_ ?_<;>intro hc h
  ·
   obtain ⟨t12,ht12,h⟩:=bnd h
   refine big_Neg_zz H hS  ht12 ?_;intro a20 m20 c20 w hS
   refine ⟨_,rfl,?_⟩
   exact hJ19 _ _ ⟨_,_,_,_,some_inj h,rfl,hS⟩
  exact hJ19 _ _ ⟨_,_,_,_,some_inj h,rfl,hS⟩
 clear h19 hS
 rintro s w ⟨a16,m17,c18,t11,rfl,rfl,hS⟩
 have h:=c19
 clear c19
 try dsimp only
 refine ⟨_,hS.cel mp1 rfl,?_⟩
 obtain ⟨t13,ht13,h⟩:=bnd h
 refine big_Lsh_zz H hS  ht13 ?_;intro a21 m21 c21 w hS
 refine ⟨_,rfl,?_⟩
 cases some_inj h
 exact hK _ _ _ _ _ (hS.pick (A:=[_,_]) [0] rfl)
theorem wk_bn_NewInt {q0 u0} (hS:Ho w0 w L)  (h:T_bn_NewInt q0=some u0) (hK:∀ (r0:Nat) (a0:OA) (n0 c0:Nat) (w1:World),Ho w0 w1 ((bg N.t_bn_Int N.t_uint32 r0 a0 n0 c0 u0)::L)→K (.pointer (some ⟨r0,0,none⟩)) w1):CallsX P N.f_bn_NewInt #[.int .i64 q0] w K:=by
 refine H.bn_NewInt q0 w _ ?_
 unfold S_bn_NewInt
 unfold T_bn_NewInt at h
 try dsimp only
 refine newM_s hS ?_;intro r1 w hS;replace hS:=Ho.bgNew (E:=N.t_uint32) hS
 obtain ⟨t1,ht1,h⟩:=bnd h
 refine big_SetInt64_z H hS  ht1 ?_;intro a2 m2 c2 w hS
 refine ⟨_,rfl,?_⟩
 cases some_inj h
 exact hK _ _ _ _ _ hS
theorem wk_dyad_limbs {q0 q0a qh qk y0 u0} (hS:Ho w0 w L) (qt:Ent L (bgR N.t_bn_Int q0 q0a qh qk y0)) (h:T_dyad_limbs y0=some u0) (hK:∀ (a0:OA) (n0 c0:Nat) (w1:World),Ho w0 w1 ((sl a0 n0 c0 (List.map (Value.int .u64) u0) N.t_uint64)::L)→K (.slice a0 n0 c0) w1):CallsX P N.f_dyad_limbs #[.pointer (some ⟨q0,0,none⟩)] w K:=by
 refine H.dyad_limbs (some ⟨q0,0,none⟩) w _ ?_
 unfold S_dyad_limbs
 unfold T_dyad_limbs at h
 try dsimp only
 refine newM_s hS ?_;intro r1 w hS;replace hS:=Ho.bgNew (E:=N.t_uint32) hS
 obtain ⟨t1,ht1,h⟩:=bnd h
 refine big_Abs_zx H hS qt ht1 ?_;intro a2 m2 c2 w hS
 refine ⟨_,rfl,?_⟩
 refine newM_s hS ?_;intro r3 w hS;replace hS:=Ho.bgNew (E:=N.t_uint32) hS
 refine newM_s hS ?_;intro r4 w hS;replace hS:=Ho.bgNew (E:=N.t_uint32) hS
 obtain ⟨t2,ht2,h⟩:=bnd h
 refine big_SetUint64_z H hS  ht2 ?_;intro a5 m5 c5 w hS
 refine ⟨_,rfl,?_⟩
 obtain ⟨o9,h9,c9⟩:=bnd h
 refine cutM_i (fun s w=>∃ (a6:OA) (m7:Nat) (c8:Nat) (t3:List Int),t3=o9∧s=((a6,m7,c8),())∧Ho w0 w ((sl a6 m7 c8 (List.map (Value.int .u64) t3) N.t_uint64)::L)) (fun J9 hJ9=>?_) ?_
 ·
  have h:=h9
  clear h9
  replace hS:=hS.none (α:=Int) (enc:=(Value.int .u64)) (t:=N.t_uint64)
  refine iter_sim (fun s w t=>∃ (a10:OA) (m11:Nat) (c12:Nat) (t4:Int) (a13:OA) (m14:Nat) (c15:Nat) (t5:Int) (a16:OA) (m17:Nat) (c18:Nat) (t6:List Int),(t4,t5,t6)=t∧s=((a16,m17,c18),())∧Ho w0 w ((bg N.t_bn_Int N.t_uint32 r4 a5 m5 c5 t2)::(bg N.t_bn_Int N.t_uint32 r3 a10 m11 c12 t4)::(bg N.t_bn_Int N.t_uint32 r1 a13 m14 c15 t5)::(sl a16 m17 c18 (List.map (Value.int .u64) t6) N.t_uint64)::L)) ?_ h ⟨_,_,_,_,_,_,_,_,_,_,_,_,rfl,rfl,(hS.pick (A:=[_,_,_,_]) [1,1,1,0] rfl)⟩
  clear h hS
  rintro s w t X q ⟨a10,m11,c12,t4,a13,m14,c15,t5,a16,m17,c18,t6,rfl,rfl,hS⟩ h hX hO
  unfold T_dyad_limbs_b2 at h
  try dsimp only
  obtain ⟨t7,ht7,h⟩:=bnd h
  refine big_Sign_x H hS (Ent.bg mp2) ht7 ?_;intro w hS
  refine ⟨_,rfl,?_⟩
  refine cond_s h ?_ ?_<;>intro hc h
  ·
   obtain ⟨t8,ht8,h⟩:=bnd h
   replace hS:=ro1 hS
   refine big_And_zxy H hS (Ent.bg mp1) (Ent.bg mp0) ht8 ?_;intro a19 m19 c19 w hS
   refine ⟨_,rfl,?_⟩
   obtain ⟨t9,ht9,h⟩:=bnd h
   refine big_Uint64_x H hS (Ent.bg mp0) ht9 ?_;intro w hS
   refine ⟨_,rfl,?_⟩
   obtain ⟨t10,ht10,h⟩:=bnd h
   obtain rfl:([t9]:List Int)=t10:=some_inj ht10
   refine lit_s (ks:=[t9]) (enc:=(Value.int .u64)) (m:=1) hS rfl rfl ?_;intro r20 w hS
   obtain ⟨t11,ht11,h⟩:=bnd h
   obtain ⟨rfl,kt11⟩:=appE ht11
   replace hS:=ro4 hS
   refine app_s hS kt11 ((Ent.sl mp1).now (fun _ h=>h) hS) (fun _=>rfl) rfl ?_;clear hS kt11;intro a21 c21 w hS
   obtain ⟨t12,ht12,h⟩:=bnd h
   replace hS:=ro4 hS
   refine big_Rsh_zz H hS  ht12 ?_;intro a22 m22 c22 w hS
   refine ⟨_,rfl,?_⟩
   obtain rfl:=some_inj h
   exact hX _ rfl _ _ ⟨_,_,_,_,_,_,_,_,_,_,_,_,rfl,rfl,(hS.pick (A:=[_,_,_,_,_]) [4,3,0,0] rfl)⟩
  obtain rfl:=some_inj h
  have h:=congrArg some (hO _ rfl)
  obtain rfl:=some_inj h
  exact hJ9 _ _ ⟨_,_,_,_,rfl,rfl,(hS.pick (A:=[_,_,_,_]) [3] rfl)⟩
 clear h9 hS
 rintro s w ⟨a6,m7,c8,t3,rfl,rfl,hS⟩
 have h:=c9
 clear c9
 try dsimp only
 cases some_inj h
 exact hK _ _ _ _ hS
theorem wk_dyad_made {q0 q0a qh qk y0 q1 u0 u1 u2 u3} (hS:Ho w0 w L) (qt:Ent L (bgR N.t_bn_Int q0 q0a qh qk y0)) (h:T_dyad_made y0 q1=some (u0,u1,u2,u3)) (hK:∀ (a1:OA) (n1 c1:Nat) (w1:World),Ho w0 w1 ((sl a1 n1 c1 (List.map (Value.int .u64) u1) N.t_uint64)::L)→K (.tuple #[.agg #[.bool u0,.slice a1 n1 c1,.int .i64 u2],.int .i64 u3]) w1):CallsX P N.f_dyad_made #[.pointer (some ⟨q0,0,none⟩),.int .i64 q1] w K:=by
 refine H.dyad_made (some ⟨q0,0,none⟩) q1 w _ ?_
 unfold S_dyad_made
 unfold T_dyad_made at h
 try dsimp only
 refine newM_s hS ?_;intro r1 w hS
 obtain ⟨t1,ht1,h⟩:=bnd h
 refine big_Sign_x H hS (qt.mono tl1) ht1 ?_;intro w hS
 refine ⟨_,rfl,?_⟩
 refine cond_s h ?_ ?_<;>intro hc h
 ·
  refine stc_s hS rfl rfl ?_;intro w hS
  refine stc_s hS rfl rfl ?_;intro w hS
  refine stc_s hS rfl rfl ?_;intro w hS
  refine ⟨_,hS.cel mp0 rfl,_,_,_,hS.cel mp0 rfl,_,hS.cel mp0 rfl,?_⟩
  replace hS:=hS.none (α:=Int) (enc:=(Value.int .u64)) (t:=N.t_uint64)
  cases some_inj h
  exact hK _ _ _ _ (hS.pick (A:=[_,_]) [0] rfl)
 obtain ⟨t2,ht2,h⟩:=bnd h
 refine big_TrailingZeroBits_x H hS (qt.mono tl1) ht2 ?_;intro w hS
 refine ⟨_,rfl,?_⟩
 refine cond_s h ?_ ?_<;>intro hc h
 ·
  refine stc_s hS rfl rfl ?_;intro w hS
  refine stc_s hS rfl rfl ?_;intro w hS
  refine stc_s hS rfl rfl ?_;intro w hS
  refine ⟨_,hS.cel mp0 rfl,_,_,_,hS.cel mp0 rfl,_,hS.cel mp0 rfl,?_⟩
  replace hS:=hS.none (α:=Int) (enc:=(Value.int .u64)) (t:=N.t_uint64)
  cases some_inj h
  exact hK _ _ _ _ (hS.pick (A:=[_,_]) [0] rfl)
 refine cond_s h ?_ ?_<;>intro hc h
 ·
  refine stc_s hS rfl rfl ?_;intro w hS
  refine stc_s hS rfl rfl ?_;intro w hS
  refine stc_s hS rfl rfl ?_;intro w hS
  refine ⟨_,hS.cel mp0 rfl,_,_,_,hS.cel mp0 rfl,_,hS.cel mp0 rfl,?_⟩
  replace hS:=hS.none (α:=Int) (enc:=(Value.int .u64)) (t:=N.t_uint64)
  cases some_inj h
  exact hK _ _ _ _ (hS.pick (A:=[_,_]) [0] rfl)
 refine cond_s h ?_ ?_<;>intro hc h
 ·
  refine stc_s hS rfl rfl ?_;intro w hS
  refine stc_s hS rfl rfl ?_;intro w hS
  refine stc_s hS rfl rfl ?_;intro w hS
  refine ⟨_,hS.cel mp0 rfl,_,_,_,hS.cel mp0 rfl,_,hS.cel mp0 rfl,?_⟩
  replace hS:=hS.none (α:=Int) (enc:=(Value.int .u64)) (t:=N.t_uint64)
  cases some_inj h
  exact hK _ _ _ _ (hS.pick (A:=[_,_]) [0] rfl)
 obtain ⟨t3,ht3,h⟩:=bnd h
 refine big_BitLen_x H hS (qt.mono tl1) ht3 ?_;intro w hS
 refine ⟨_,rfl,?_⟩
 refine cond_s h ?_ ?_<;>intro hc h
 ·
  refine stc_s hS rfl rfl ?_;intro w hS
  refine stc_s hS rfl rfl ?_;intro w hS
  refine stc_s hS rfl rfl ?_;intro w hS
  refine ⟨_,hS.cel mp0 rfl,_,_,_,hS.cel mp0 rfl,_,hS.cel mp0 rfl,?_⟩
  replace hS:=hS.none (α:=Int) (enc:=(Value.int .u64)) (t:=N.t_uint64)
  cases some_inj h
  exact hK _ _ _ _ (hS.pick (A:=[_,_]) [0] rfl)
 obtain ⟨t4,ht4,h⟩:=bnd h
 refine big_Sign_x H hS (qt.mono tl1) ht4 ?_;intro w hS
 refine ⟨_,rfl,?_⟩
 refine newM_s hS ?_;intro r2 w hS;replace hS:=Ho.bgNew (E:=N.t_uint32) hS
 refine newM_s hS ?_;intro r3 w hS;replace hS:=Ho.bgNew (E:=N.t_uint32) hS
 obtain ⟨t5,ht5,h⟩:=bnd h
 refine big_Abs_zx H hS (qt.mono tl2) ht5 ?_;intro a4 m4 c4 w hS
 refine ⟨_,rfl,?_⟩
 obtain ⟨t6,ht6,h⟩:=bnd h
 replace hS:=ro1 hS
 refine big_Rsh_zx H hS (Ent.bg mp0) ht6 ?_;intro a5 m5 c5 w hS
 refine ⟨_,rfl,?_⟩
 obtain ⟨t7,ht7,h⟩:=bnd h
 refine wk_dyad_limbs H hS (Ent.bg mp0) ht7 ?_;rintro a6 m6 c6 w hS
 refine ⟨_,_,_,rfl,?_⟩
 replace hS:=ro3 hS
 refine stc_s hS rfl rfl ?_;intro w hS
 refine stc_s hS rfl rfl ?_;intro w hS
 refine stc_s hS rfl rfl ?_;intro w hS
 refine ⟨_,hS.cel mp0 rfl,_,_,_,hS.cel mp0 rfl,_,hS.cel mp0 rfl,?_⟩
 cases some_inj h
 exact hK _ _ _ _ (hS.pick (A:=[_,_,_,_]) [1] rfl)
theorem wk_dyad_Norm {qe qf qb qd l0_1 qg u0 u1 u2 u3} (hS:Ho w0 w L) (qm:EU L l0_1 qf qb qd) (h:T_dyad_Norm qe l0_1 qg=some (u0,u1,u2,u3)) (hK:∀ (a1:OA) (n1 c1:Nat) (w1:World),Ho w0 w1 ((sl a1 n1 c1 (List.map (Value.int .u64) u1) N.t_uint64)::L)→K (.tuple #[.agg #[.bool u0,.slice a1 n1 c1,.int .i64 u2],.int .i64 u3]) w1):CallsX P N.f_dyad_Norm #[.agg #[.bool qe,.slice qf qb qd,.int .i64 qg]] w K:=by
 refine H.dyad_Norm qe qf qb qd qg w _ ?_
 unfold S_dyad_Norm
 unfold T_dyad_Norm at h
 try dsimp only
 refine newM_s hS ?_;intro r1 w hS
 refine newM_s hS ?_;intro r2 w hS
 refine ⟨_,hS.cel mp1 rfl,_,_,_,hS.cel mp1 rfl,_,hS.cel mp1 rfl,_,hS.cel mp1 rfl,?_⟩
 refine drM_s hS ?_;intro w hS
 obtain ⟨t1,ht1,h⟩:=bnd h
 refine wk_dyad_whole H hS (qm.mono tl2) ht1 ?_;rintro r3 a3 m3 c3 w hS
 refine ⟨_,rfl,?_⟩
 refine ⟨(hS.cel mp2 rfl),?_⟩
 refine drM_s hS ?_;intro w hS
 obtain ⟨⟨t2,t3,t4,t5⟩,ho2,h⟩:=bnd h
 refine wk_dyad_made H hS (Ent.bg mp0) ho2 ?_;clear hS ho2;rintro a4 m4 c4 w hS
 refine ⟨_,_,_,_,_,_,rfl,?_⟩
 refine drM_s hS ?_;intro w hS
 replace hS:=ro2 hS
 refine stc_s hS rfl rfl ?_;intro w hS
 refine stc_s hS rfl rfl ?_;intro w hS
 refine stc_s hS rfl rfl ?_;intro w hS
 refine drM_s hS ?_;intro w hS
 refine ⟨_,hS.cel mp0 rfl,_,_,_,hS.cel mp0 rfl,_,hS.cel mp0 rfl,?_⟩
 cases some_inj h
 exact hK _ _ _ _ (hS.pick (A:=[_,_,_,_]) [1] rfl)
theorem wk_inertia_told {q0 q0a qh qk y0 q1 u0 u1 u2 u3} (hS:Ho w0 w L) (qt:Ent L (bgR N.t_bn_Int q0 q0a qh qk y0)) (h:T_inertia_told y0 q1=some (u0,u1,u2,u3)) (hK:∀ (a1:OA) (n1 c1:Nat) (w1:World),Ho w0 w1 ((sl a1 n1 c1 (List.map (Value.int .u64) u1) N.t_uint64)::L)→K (.tuple #[.agg #[.bool u0,.slice a1 n1 c1,.int .i64 u2],.int .i64 u3]) w1):CallsX P N.f_inertia_told #[.pointer (some ⟨q0,0,none⟩),.int .i64 q1] w K:=by
 refine H.inertia_told (some ⟨q0,0,none⟩) q1 w _ ?_
 unfold S_inertia_told
 unfold T_inertia_told at h
 try dsimp only
 refine newM_s hS ?_;intro r1 w hS
 obtain ⟨t1,ht1,h⟩:=bnd h
 refine big_Sign_x H hS (qt.mono tl1) ht1 ?_;intro w hS
 refine ⟨_,rfl,?_⟩
 refine newM_s hS ?_;intro r2 w hS
 refine stc_s hS rfl rfl ?_;intro w hS
 refine stc_s hS rfl rfl ?_;intro w hS
 refine stc_s hS rfl rfl ?_;intro w hS
 refine newM_s hS ?_;intro r3 w hS;replace hS:=Ho.bgNew (E:=N.t_uint32) hS
 obtain ⟨t2,ht2,h⟩:=bnd h
 refine big_Abs_zx H hS (qt.mono tl2) ht2 ?_;intro a4 m4 c4 w hS
 refine ⟨_,rfl,?_⟩
 obtain ⟨o8,h8,c8⟩:=bnd h
 refine cutM_i (fun s w=>∃ (a5:OA) (m6:Nat) (c7:Nat) (t3:List Int),t3=o8∧s=(())∧Ho w0 w ((cl r2 [.bool (decide (t1<0)),.slice a5 m6 c7,.int .i64 q1] N.t_Dyad)::(cl r1 [.bool false,.slice none 0 0,.int .i64 0] N.t_Dyad)::(sl a5 m6 c7 (List.map (Value.int .u64) t3) N.t_uint64)::L)) (fun J8 hJ8=>?_) ?_
 ·
  have h:=h8
  clear h8
  replace hS:=hS.none (α:=Int) (enc:=(Value.int .u64)) (t:=N.t_uint64)
  refine iter_sim (fun s w t=>∃ (a9:OA) (m10:Nat) (c11:Nat) (t4:Int) (a12:OA) (m13:Nat) (c14:Nat) (t5:List Int),(t4,t5)=t∧s=(())∧Ho w0 w ((bg N.t_bn_Int N.t_uint32 r3 a9 m10 c11 t4)::(cl r2 [.bool (decide (t1<0)),.slice a12 m13 c14,.int .i64 q1] N.t_Dyad)::(cl r1 [.bool false,.slice none 0 0,.int .i64 0] N.t_Dyad)::(sl a12 m13 c14 (List.map (Value.int .u64) t5) N.t_uint64)::L)) ?_ h ⟨_,_,_,_,_,_,_,_,rfl,rfl,(hS.pick (A:=[_,_,_,_]) [1,1,1,0] rfl)⟩
  clear h hS
  rintro s w t X q ⟨a9,m10,c11,t4,a12,m13,c14,t5,rfl,rfl,hS⟩ h hX hO
  unfold T_inertia_told_b2 at h
  try dsimp only
  obtain ⟨t6,ht6,h⟩:=bnd h
  refine big_Sign_x H hS (Ent.bg mp0) ht6 ?_;intro w hS
  refine ⟨_,rfl,?_⟩
  refine cond_s h ?_ ?_<;>intro hc h
  ·
   refine ⟨_,_,_,hS.cel mp1 rfl,?_⟩
   refine drM_s hS ?_;intro w hS
   obtain ⟨t7,ht7,h⟩:=bnd h
   refine big_Uint64_x H hS (Ent.bg mp0) ht7 ?_;intro w hS
   refine ⟨_,rfl,?_⟩
   refine ⟨(hS.cel mp1 rfl),?_⟩
   refine drM_s hS ?_;intro w hS
   obtain ⟨t8,ht8,h⟩:=bnd h
   obtain rfl:([t7]:List Int)=t8:=some_inj ht8
   refine lit_s (ks:=[t7]) (enc:=(Value.int .u64)) (m:=1) hS rfl rfl ?_;intro r15 w hS
   refine ⟨(hS.cel mp2 rfl),?_⟩
   refine drM_s hS ?_;intro w hS
   obtain ⟨t9,ht9,h⟩:=bnd h
   obtain ⟨rfl,kt9⟩:=appE ht9
   replace hS:=ro4 hS
   refine app_s hS kt9 ((Ent.sl mp1).now (fun _ h=>h) hS) (fun _=>rfl) rfl ?_;clear hS kt9;intro a16 c16 w hS
   refine drM_s hS ?_;intro w hS
   replace hS:=ro3 hS
   refine stc_s hS rfl rfl ?_;intro w hS
   refine drM_s hS ?_;intro w hS
   obtain ⟨t10,ht10,h⟩:=bnd h
   replace hS:=ro3 hS
   refine big_Rsh_zz H hS  ht10 ?_;intro a17 m17 c17 w hS
   refine ⟨_,rfl,?_⟩
   obtain rfl:=some_inj h
   exact hX _ rfl _ _ ⟨_,_,_,_,_,_,_,_,rfl,rfl,(hS.pick (A:=[_,_,_,_,_]) [0,0,2,0] rfl)⟩
  obtain rfl:=some_inj h
  have h:=congrArg some (hO _ rfl)
  obtain rfl:=some_inj h
  exact hJ8 _ _ ⟨_,_,_,_,rfl,rfl,(hS.pick (A:=[_,_,_,_]) [1,1,1] rfl)⟩
 clear h8 hS
 rintro s w ⟨a5,m6,c7,t3,rfl,rfl,hS⟩
 have h:=c8
 clear c8
 try dsimp only
 refine ⟨_,hS.cel mp0 rfl,_,_,_,hS.cel mp0 rfl,_,hS.cel mp0 rfl,?_⟩
 obtain ⟨⟨t11,t12,t13,t14⟩,ho11,h⟩:=bnd h
 refine wk_dyad_Norm H hS (Ent.sl mp2) ho11 ?_;clear hS ho11;rintro a18 m18 c18 w hS
 refine ⟨_,_,_,_,_,_,rfl,?_⟩
 replace hS:=ro2 hS
 refine stc_s hS rfl rfl ?_;intro w hS
 refine stc_s hS rfl rfl ?_;intro w hS
 refine stc_s hS rfl rfl ?_;intro w hS
 refine ⟨_,hS.cel mp0 rfl,_,_,_,hS.cel mp0 rfl,_,hS.cel mp0 rfl,?_⟩
 cases some_inj h
 exact hK _ _ _ _ (hS.pick (A:=[_,_,_,_]) [1] rfl)
theorem wk_k_SameLimbs {q0 qh qk l0 q1 qs qx l1 u0} (hS:Ho w0 w L) (qt:EU L l0 q0 qh qk) (qz:EU L l1 q1 qs qx) (h:T_k_SameLimbs l0 l1=some u0) (hK:∀ w1,Ho w0 w1 L→K (.bool u0) w1):CallsX P N.f_k_SameLimbs #[.slice q0 qh qk,.slice q1 qs qx] w K:=by
 refine H.k_SameLimbs q0 qh qk q1 qs qx w _ ?_
 unfold S_k_SameLimbs
 unfold T_k_SameLimbs at h
 try dsimp only
 obtain ⟨t1,ht1,h⟩:=bnd h
 obtain rfl:=lenE ht1 (qt.now (fun _ h=>h) hS)
 obtain ⟨t2,ht2,h⟩:=bnd h
 obtain rfl:=lenE ht2 (qz.now (fun _ h=>h) hS)
 refine cond_s h ?_ ?_<;>intro hc h
 ·
  cases some_inj h
  exact hK _ hS
 obtain ⟨o1,h1,c1⟩:=bnd h
 refine cutM_i (fun s w =>  .inl ()=o1∧s=(())∧Ho w0 w L) (fun J1 hJ1=>?_) ?_
 ·
  have h:=h1
  clear h1
  refine iter_sim (fun s w t=>∃ (t3:Int),t3=t∧s=(t3,())∧Ho w0 w L) ?_ h ⟨_,rfl,rfl,hS⟩
  clear h hS
  rintro s w t X q ⟨t3,rfl,rfl,hS⟩ h hX hO
  unfold T_k_SameLimbs_b2 at h
  try dsimp only
  obtain ⟨t4,ht4,h⟩:=bnd h
  obtain rfl:=lenE ht4 (qt.now (fun _ h=>h) hS)
  refine cond_s h ?_ ?_<;>intro hc h
  ·
   obtain ⟨t5,ht5,h⟩:=bnd h
   obtain ⟨q2x,vj,q2r⟩:=atE ht5
   refine idx_s (qt.now (fun _ h=>h) hS) q2x vj q2r ?_;intro b3 hb3
   refine ⟨_,rd_get (qt.now (fun _ h=>h) hS) hb3 q2x,?_⟩
   obtain ⟨t6,ht6,h⟩:=bnd h
   obtain ⟨q4x,vq,q4r⟩:=atE ht6
   refine idx_s (qz.now (fun _ h=>h) hS) q4x vq q4r ?_;intro b5 hb5
   refine ⟨_,rd_get (qz.now (fun _ h=>h) hS) hb5 q4x,?_⟩
   refine drM_s hS ?_;intro w hS
   refine cond_s h ?_ ?_<;>intro hc h
   ·
    obtain rfl:=some_inj h
    have h:=congrArg some (hO _ rfl)
    obtain rfl:=some_inj h
    have h:=c1
    cases some_inj h
    exact hK _ hS
   obtain rfl:=some_inj h
   exact hX _ rfl _ _ ⟨_,rfl,rfl,hS⟩
  obtain rfl:=some_inj h
  have h:=congrArg some (hO _ rfl)
  exact hJ1 _ _ ⟨some_inj h,rfl,hS⟩
 clear h1 hS
 rintro s w ⟨rfl,rfl,hS⟩
 have h:=c1
 clear c1
 try dsimp only
 cases some_inj h
 exact hK _ hS
theorem wk_k_SameDyad {qe qf qb qd l0_1 qg qq qr qi qj l1_1 qw u0} (hS:Ho w0 w L) (qm:EU L l0_1 qf qb qd) (qu:EU L l1_1 qr qi qj) (h:T_k_SameDyad qe l0_1 qg qq l1_1 qw=some u0) (hK:∀ w1,Ho w0 w1 L→K (.bool u0) w1):CallsX P N.f_k_SameDyad #[.agg #[.bool qe,.slice qf qb qd,.int .i64 qg],.agg #[.bool qq,.slice qr qi qj,.int .i64 qw]] w K:=by
 refine H.k_SameDyad qe qf qb qd qg qq qr qi qj qw w _ ?_
 unfold S_k_SameDyad
 unfold T_k_SameDyad at h
 try dsimp only
 refine newM_s hS ?_;intro r1 w hS
 refine newM_s hS ?_;intro r2 w hS
 refine ⟨_,hS.cel mp1 rfl,_,hS.cel mp0 rfl,?_⟩
 refine cond_s h ?_ ?_<;>intro hc h
 ·
  refine ⟨_,_,_,hS.cel mp1 rfl,_,_,_,hS.cel mp0 rfl,?_⟩
  obtain ⟨t1,ht1,h⟩:=bnd h
  refine wk_k_SameLimbs H hS (qm.mono tl2) (qu.mono tl2) ht1 ?_;rintro w hS
  refine ⟨_,rfl,?_⟩
  refine cond_s h ?_ ?_<;>intro hc h
  ·
   refine ⟨_,hS.cel mp1 rfl,_,hS.cel mp0 rfl,?_⟩
   cases some_inj h
   exact hK _ (hS.pick (A:=[_,_]) [] rfl)
  cases some_inj h
  exact hK _ (hS.pick (A:=[_,_]) [] rfl)
 cases some_inj h
 exact hK _ (hS.pick (A:=[_,_]) [] rfl)
theorem wk_k_SameDyads {q0 qh qk} {H0:List Hd} {l0:List Dy} {q1 qs qx} {H1:List Hd} {l1:List Dy} {u0} (hS:Ho w0 w L) (qt:Ent L (rdA (dyC l0 H0) q0 (qh*3) (qk*3))) (gq0:AllD L l0 H0) (qz:Ent L (rdA (dyC l1 H1) q1 (qs*3) (qx*3))) (gq1:AllD L l1 H1) (h:T_k_SameDyads l0 l1=some u0) (hK:∀ w1,Ho w0 w1 L→K (.bool u0) w1):CallsX P N.f_k_SameDyads #[.slice q0 qh qk,.slice q1 qs qx] w K:=by
 refine H.k_SameDyads q0 qh qk q1 qs qx w _ ?_
 unfold S_k_SameDyads
 unfold T_k_SameDyads at h
 try dsimp only
 obtain ⟨t1,ht1,h⟩:=bnd h
 obtain rfl:=lenD ht1 gq0.len (qt.now (fun _ h=>h) hS)
 obtain ⟨t2,ht2,h⟩:=bnd h
 obtain rfl:=lenD ht2 gq1.len (qz.now (fun _ h=>h) hS)
 refine cond_s h ?_ ?_<;>intro hc h
 ·
  cases some_inj h
  exact hK _ hS
 obtain ⟨o1,h1,c1⟩:=bnd h
 refine cutM_i (fun s w =>  .inl ()=o1∧s=(())∧Ho w0 w L) (fun J1 hJ1=>?_) ?_
 ·
  have h:=h1
  clear h1
  refine iter_sim (fun s w t=>∃ (t3:Int),t3=t∧s=(t3,())∧Ho w0 w L) ?_ h ⟨_,rfl,rfl,hS⟩
  clear h hS
  rintro s w t X q ⟨t3,rfl,rfl,hS⟩ h hX hO
  unfold T_k_SameDyads_b2 at h
  try dsimp only
  obtain ⟨t4,ht4,h⟩:=bnd h
  obtain rfl:=lenD ht4 gq0.len (qt.now (fun _ h=>h) hS)
  refine cond_s h ?_ ?_<;>intro hc h
  ·
   obtain ⟨t5,ht5,h⟩:=bnd h
   obtain ⟨gq2,q2x,q2k,vj,q2r,q2e⟩:=AllD.atE gq0 ht5
   refine idxD_s gq0.len (qt.now (fun _ h=>h) hS) vj q2r ?_;intro b3 hb3
   refine ⟨_,(rdD0 (qt.now (fun _ h=>h) hS) hb3 q2k q2x),?_⟩
   refine ⟨_,_,_,(rdD1 (qt.now (fun _ h=>h) hS) hb3 q2k q2x),?_⟩
   refine ⟨_,(rdD2 (qt.now (fun _ h=>h) hS) hb3 q2k q2x),?_⟩
   obtain ⟨t6,ht6,h⟩:=bnd h
   obtain ⟨gq4,q4x,q4k,vq,q4r,q4e⟩:=AllD.atE gq1 ht6
   refine idxD_s gq1.len (qz.now (fun _ h=>h) hS) vq q4r ?_;intro b5 hb5
   refine ⟨_,(rdD0 (qz.now (fun _ h=>h) hS) hb5 q4k q4x),?_⟩
   refine ⟨_,_,_,(rdD1 (qz.now (fun _ h=>h) hS) hb5 q4k q4x),?_⟩
   refine ⟨_,(rdD2 (qz.now (fun _ h=>h) hS) hb5 q4k q4x),?_⟩
   refine drM_s hS ?_;intro w hS
   obtain ⟨t7,ht7,h⟩:=bnd h
   refine wk_k_SameDyad H hS q2e q4e ht7 ?_;rintro w hS
   refine ⟨_,rfl,?_⟩
   refine drM_s hS ?_;intro w hS
   refine cond_s h ?_ ?_<;>intro hc h
   ·
    obtain rfl:=some_inj h
    have h:=congrArg some (hO _ rfl)
    obtain rfl:=some_inj h
    have h:=c1
    cases some_inj h
    exact hK _ hS
   obtain rfl:=some_inj h
   exact hX _ rfl _ _ ⟨_,rfl,rfl,hS⟩
  obtain rfl:=some_inj h
  have h:=congrArg some (hO _ rfl)
  exact hJ1 _ _ ⟨some_inj h,rfl,hS⟩
 clear h1 hS
 rintro s w ⟨rfl,rfl,hS⟩
 have h:=c1
 clear c1
 try dsimp only
 cases some_inj h
 exact hK _ hS
theorem wk_w16_sign {qe qf qb qd l0_1 qg u0} (hS:Ho w0 w L) (qm:EU L l0_1 qf qb qd) (h:T_w16_sign qe l0_1 qg=some u0) (hK:∀ w1,Ho w0 w1 L→K (.int .i64 u0) w1):CallsX P N.f_w16_sign #[.agg #[.bool qe,.slice qf qb qd,.int .i64 qg]] w K:=by
 refine H.w16_sign qe qf qb qd qg w _ ?_
 unfold S_w16_sign
 unfold T_w16_sign at h
 try dsimp only
 refine newM_s hS ?_;intro r1 w hS
 refine ⟨_,hS.cel mp0 rfl,_,_,_,hS.cel mp0 rfl,_,hS.cel mp0 rfl,?_⟩
 obtain ⟨⟨t1,t2⟩,ho1,h⟩:=bnd h
 refine wk_dyad_Sign H hS (qm.mono tl1) ho1 ?_;clear hS ho1;rintro w hS
 refine ⟨_,_,rfl,?_⟩
 cases some_inj h
 exact hK _ (hS.pick (A:=[_]) [] rfl)
theorem wk_dyad_Int {q0 u0 u1 u2} (hS:Ho w0 w L)  (h:T_dyad_Int q0=some (u0,u1,u2)) (hK:∀ (a1:OA) (n1 c1:Nat) (w1:World),Ho w0 w1 ((sl a1 n1 c1 (List.map (Value.int .u64) u1) N.t_uint64)::L)→K (.agg #[.bool u0,.slice a1 n1 c1,.int .i64 u2]) w1):CallsX P N.f_dyad_Int #[.int .i64 q0] w K:=by
 refine H.dyad_Int q0 w _ ?_
 unfold S_dyad_Int
 unfold T_dyad_Int at h
 try dsimp only
 refine newM_s hS ?_;intro r1 w hS
 obtain ⟨t1,ht1,h⟩:=bnd h
 refine wk_bn_NewInt H hS  ht1 ?_;rintro r2 a2 m2 c2 w hS
 refine ⟨_,rfl,?_⟩
 obtain ⟨⟨t2,t3,t4,t5⟩,ho2,h⟩:=bnd h
 refine wk_dyad_made H hS (Ent.bg mp0) ho2 ?_;clear hS ho2;rintro a3 m3 c3 w hS
 refine ⟨_,_,_,_,_,_,rfl,?_⟩
 refine newM_s hS ?_;intro r4 w hS
 refine stc_s hS rfl rfl ?_;intro w hS
 refine stc_s hS rfl rfl ?_;intro w hS
 refine stc_s hS rfl rfl ?_;intro w hS
 refine ⟨_,hS.cel mp0 rfl,_,_,_,hS.cel mp0 rfl,_,hS.cel mp0 rfl,?_⟩
 replace hS:=ro3 hS
 refine stc_s hS rfl rfl ?_;intro w hS
 refine stc_s hS rfl rfl ?_;intro w hS
 refine stc_s hS rfl rfl ?_;intro w hS
 refine ⟨_,hS.cel mp0 rfl,_,_,_,hS.cel mp0 rfl,_,hS.cel mp0 rfl,?_⟩
 cases some_inj h
 exact hK _ _ _ _ (hS.pick (A:=[_,_,_,_]) [2] rfl)
theorem wk_dyad_both {qe qf qb qd l0_1 qg qq qr qi qj l1_1 qw u0} (hS:Ho w0 w L) (qm:EU L l0_1 qf qb qd) (qu:EU L l1_1 qr qi qj) (h:T_dyad_both qe l0_1 qg qq l1_1 qw=some u0) (hK:∀ w1,Ho w0 w1 L→K (.bool u0) w1):CallsX P N.f_dyad_both #[.agg #[.bool qe,.slice qf qb qd,.int .i64 qg],.agg #[.bool qq,.slice qr qi qj,.int .i64 qw]] w K:=by
 refine H.dyad_both qe qf qb qd qg qq qr qi qj qw w _ ?_
 unfold S_dyad_both
 unfold T_dyad_both at h
 try dsimp only
 refine newM_s hS ?_;intro r1 w hS
 refine newM_s hS ?_;intro r2 w hS
 refine ⟨_,hS.cel mp1 rfl,_,_,_,hS.cel mp1 rfl,_,hS.cel mp1 rfl,?_⟩
 obtain ⟨t1,ht1,h⟩:=bnd h
 refine wk_dyad_Right H hS (qm.mono tl2) ht1 ?_;rintro w hS
 refine ⟨_,rfl,?_⟩
 refine cond_s h ?_ ?_<;>intro hc h
 ·
  refine ⟨_,hS.cel mp0 rfl,_,_,_,hS.cel mp0 rfl,_,hS.cel mp0 rfl,?_⟩
  obtain ⟨t2,ht2,h⟩:=bnd h
  refine wk_dyad_Right H hS (qu.mono tl2) ht2 ?_;rintro w hS
  refine ⟨_,rfl,?_⟩
  cases some_inj h
  exact hK _ (hS.pick (A:=[_,_]) [] rfl)
 cases some_inj h
 exact hK _ (hS.pick (A:=[_,_]) [] rfl)
theorem wk_dyad_Add {qe qf qb qd l0_1 qg qq qr qi qj l1_1 qw u0 u1 u2 u3} (hS:Ho w0 w L) (qm:EU L l0_1 qf qb qd) (qu:EU L l1_1 qr qi qj) (h:T_dyad_Add qe l0_1 qg qq l1_1 qw=some (u0,u1,u2,u3)) (hK:∀ (a1:OA) (n1 c1:Nat) (w1:World),Ho w0 w1 ((sl a1 n1 c1 (List.map (Value.int .u64) u1) N.t_uint64)::L)→K (.tuple #[.agg #[.bool u0,.slice a1 n1 c1,.int .i64 u2],.int .i64 u3]) w1):CallsX P N.f_dyad_Add #[.agg #[.bool qe,.slice qf qb qd,.int .i64 qg],.agg #[.bool qq,.slice qr qi qj,.int .i64 qw]] w K:=by
 refine H.dyad_Add qe qf qb qd qg qq qr qi qj qw w _ ?_
 unfold S_dyad_Add
 unfold T_dyad_Add at h
 try dsimp only
 refine newM_s hS ?_;intro r1 w hS
 refine newM_s hS ?_;intro r2 w hS
 refine newM_s hS ?_;intro r3 w hS
 refine ⟨_,hS.cel mp2 rfl,_,_,_,hS.cel mp2 rfl,_,hS.cel mp2 rfl,_,hS.cel mp1 rfl,_,_,_,hS.cel mp1 rfl,_,hS.cel mp1 rfl,?_⟩
 obtain ⟨t1,ht1,h⟩:=bnd h
 refine wk_dyad_both H hS (qm.mono tl3) (qu.mono tl3) ht1 ?_;rintro w hS
 refine ⟨_,rfl,?_⟩
 refine cond_s h ?_ ?_<;>intro hc h
 ·
  refine stc_s hS rfl rfl ?_;intro w hS
  refine stc_s hS rfl rfl ?_;intro w hS
  refine stc_s hS rfl rfl ?_;intro w hS
  refine ⟨_,hS.cel mp0 rfl,_,_,_,hS.cel mp0 rfl,_,hS.cel mp0 rfl,?_⟩
  replace hS:=hS.none (α:=Int) (enc:=(Value.int .u64)) (t:=N.t_uint64)
  cases some_inj h
  exact hK _ _ _ _ (hS.pick (A:=[_,_,_,_]) [0] rfl)
 refine ⟨_,hS.cel mp2 rfl,_,_,_,hS.cel mp2 rfl,_,hS.cel mp2 rfl,_,hS.cel mp1 rfl,_,_,_,hS.cel mp1 rfl,_,hS.cel mp1 rfl,?_⟩
 refine drM_s hS ?_;intro w hS
 obtain ⟨t2,ht2,h⟩:=bnd h
 refine wk_dyad_whole H hS (qm.mono tl3) ht2 ?_;rintro r4 a4 m4 c4 w hS
 refine ⟨_,rfl,?_⟩
 refine ⟨(hS.cel mp2 rfl),?_⟩
 refine ⟨(hS.cel mp2 rfl),?_⟩
 refine ⟨(hS.cel mp2 rfl),?_⟩
 refine drM_s hS ?_;intro w hS
 obtain ⟨t3,ht3,h⟩:=bnd h
 refine wk_dyad_whole H hS (qu.mono tl4) ht3 ?_;rintro r5 a5 m5 c5 w hS
 refine ⟨_,rfl,?_⟩
 refine drM_s hS ?_;intro w hS
 obtain ⟨o6,h6,c6⟩:=bnd h
 refine cutM_i (fun s w=>∃ (t4:Bool),t4=o6∧s=(t4,())∧Ho w0 w ((bg N.t_bn_Int N.t_uint32 r5 a5 m5 c5 t3)::(bg N.t_bn_Int N.t_uint32 r4 a4 m4 c4 t2)::(cl r3 [.bool false,.slice none 0 0,.int .i64 0] N.t_Dyad)::(cl r2 [.bool qq,.slice qr qi qj,.int .i64 qw] N.t_Dyad)::(cl r1 [.bool qe,.slice qf qb qd,.int .i64 qg] N.t_Dyad)::L)) (fun J6 hJ6=>?_) ?_
 ·
  have h:=h6
  clear h6
  obtain ⟨t5,ht5,h⟩:=bnd h
  refine big_Sign_x H hS (Ent.bg mp1) ht5 ?_;intro w hS
  refine ⟨_,rfl,?_⟩
  refine cond_s h ?_ ?_<;>intro hc h
  ·
   obtain ⟨t6,ht6,h⟩:=bnd h
   refine big_Sign_x H hS (Ent.bg mp0) ht6 ?_;intro w hS
   refine ⟨_,rfl,?_⟩
   exact hJ6 _ _ ⟨_,some_inj h,rfl,hS⟩
  exact hJ6 _ _ ⟨_,some_inj h,rfl,hS⟩
 clear h6 hS
 rintro s w ⟨t4,rfl,rfl,hS⟩
 have h:=c6
 clear c6
 try dsimp only
 refine cond_s h ?_ ?_<;>intro hc h
 ·
  refine ⟨_,hS.cel mp4 rfl,_,hS.cel mp3 rfl,?_⟩
  refine drM_s hS ?_;intro w hS
  obtain ⟨t7,ht7,h⟩:=bnd h
  replace hS:=ro1 hS
  refine big_Add_zzy H hS (Ent.bg mp0) ht7 ?_;intro a7 m7 c7 w hS
  refine ⟨_,rfl,?_⟩
  refine ⟨(hS.cel mp3 rfl),?_⟩
  refine ⟨(hS.cel mp4 rfl),?_⟩
  refine drM_s hS ?_;intro w hS
  obtain ⟨⟨t8,t9,t10,t11⟩,ho8,h⟩:=bnd h
  refine wk_dyad_made H hS (Ent.bg mp0) ho8 ?_;clear hS ho8;rintro a8 m8 c8 w hS
  refine ⟨_,_,_,_,_,_,rfl,?_⟩
  refine drM_s hS ?_;intro w hS
  replace hS:=ro3 hS
  refine stc_s hS rfl rfl ?_;intro w hS
  refine stc_s hS rfl rfl ?_;intro w hS
  refine stc_s hS rfl rfl ?_;intro w hS
  refine drM_s hS ?_;intro w hS
  refine ⟨_,hS.cel mp0 rfl,_,_,_,hS.cel mp0 rfl,_,hS.cel mp0 rfl,?_⟩
  cases some_inj h
  exact hK _ _ _ _ (hS.pick (A:=[_,_,_,_,_,_]) [1] rfl)
 refine ⟨_,hS.cel mp4 rfl,_,hS.cel mp3 rfl,?_⟩
 obtain ⟨o27,h27,c27⟩:=bnd h
 refine cutM_i (fun s w=>∃ (t12:Bool) (t13:Int) (t14:Bool) (t15:Int) (r9:Nat) (a10:OA) (m11:Nat) (c12:Nat) (t16:Int) (r13:Nat) (a14:OA) (m15:Nat) (c16:Nat) (t17:Int) (a17:OA) (m18:Nat) (c19:Nat) (t18:List Int) (it20:It) (a22:OA) (m23:Nat) (c24:Nat) (t19:List Int) (it25:It),(t12,t13,t14,t15,t16,t17,t18,t19)=o27∧s=((some ⟨r9,0,none⟩),(some ⟨r13,0,none⟩),())∧Ent (it20::L) (rdA (List.map (Value.int .u64) t18) a17 m18 c19)∧Ent (it25::L) (rdA (List.map (Value.int .u64) t19) a22 m23 c24)∧Ho w0 w ((cl r2 [.bool t12,.slice a17 m18 c19,.int .i64 t13] N.t_Dyad)::(cl r1 [.bool t14,.slice a22 m23 c24,.int .i64 t15] N.t_Dyad)::(cl r3 [.bool false,.slice none 0 0,.int .i64 0] N.t_Dyad)::(bg N.t_bn_Int N.t_uint32 r9 a10 m11 c12 t16)::(bg N.t_bn_Int N.t_uint32 r13 a14 m15 c16 t17)::it20::it25::L)) (fun J27 hJ27=>?_) ?_
 ·
  have h:=h27
  clear h27
  refine cond_s h ?_ ?_<;>intro hc h
  ·
   refine ⟨_,hS.cel mp3 rfl,_,_,_,hS.cel mp3 rfl,_,hS.cel mp3 rfl,_,hS.cel mp4 rfl,_,_,_,hS.cel mp4 rfl,_,hS.cel mp4 rfl,?_⟩
   replace hS:=ro4 hS
   refine stc_s hS rfl rfl ?_;intro w hS
   refine stc_s hS rfl rfl ?_;intro w hS
   refine stc_s hS rfl rfl ?_;intro w hS
   replace hS:=ro4 hS
   refine stc_s hS rfl rfl ?_;intro w hS
   refine stc_s hS rfl rfl ?_;intro w hS
   refine stc_s hS rfl rfl ?_;intro w hS
   replace hS:=hS.voidItem
   replace hS:=hS.voidItem
   obtain rfl:=some_inj h
   exact hJ27 _ _ ⟨_,_,_,_,_,_,_,_,_,_,_,_,_,_,_,_,_,_,_,_,_,_,_,_,rfl,rfl,(qm.mono tl1),(qu.mono tl1),(hS.pick (A:=[_,_,_,_,_,_,_]) [2,2,4,2,2,1,0] rfl)⟩
  replace hS:=hS.voidItem
  replace hS:=hS.voidItem
  obtain rfl:=some_inj h
  exact hJ27 _ _ ⟨_,_,_,_,_,_,_,_,_,_,_,_,_,_,_,_,_,_,_,_,_,_,_,_,rfl,rfl,(qu.mono tl1),(qm.mono tl1),(hS.pick (A:=[_,_,_,_,_,_,_]) [5,5,4,3,2,1,0] rfl)⟩
 clear h27 hS
 rintro s w ⟨t12,t13,t14,t15,r9,a10,m11,c12,t16,r13,a14,m15,c16,t17,a17,m18,c19,t18,it20,a22,m23,c24,t19,it25,rfl,rfl,e21,e26,hS⟩
 have h:=c27
 clear c27
 try dsimp only
 refine ⟨_,hS.cel mp1 rfl,_,hS.cel mp0 rfl,?_⟩
 refine cond_s h ?_ ?_<;>intro hc h
 ·
  replace hS:=ro2 hS
  refine stc_s hS rfl rfl ?_;intro w hS
  refine stc_s hS rfl rfl ?_;intro w hS
  refine stc_s hS rfl rfl ?_;intro w hS
  refine ⟨_,hS.cel mp0 rfl,_,_,_,hS.cel mp0 rfl,_,hS.cel mp0 rfl,?_⟩
  replace hS:=hS.none (α:=Int) (enc:=(Value.int .u64)) (t:=N.t_uint64)
  cases some_inj h
  exact hK _ _ _ _ (hS.pick (A:=[_,_,_,_,_,_,_,_]) [0] rfl)
 refine ⟨_,hS.cel mp0 rfl,?_⟩
 refine drM_s hS ?_;intro w hS
 obtain ⟨t20,ht20,h⟩:=bnd h
 replace hS:=ro3 hS
 refine big_Lsh_zz H hS  ht20 ?_;intro a28 m28 c28 w hS
 refine ⟨_,rfl,?_⟩
 refine ⟨(hS.cel mp1 rfl),?_⟩
 refine drM_s hS ?_;intro w hS
 obtain ⟨t21,ht21,h⟩:=bnd h
 refine big_Add_zzy H hS (Ent.bg mp3) ht21 ?_;intro a29 m29 c29 w hS
 refine ⟨_,rfl,?_⟩
 refine ⟨(hS.cel mp1 rfl),?_⟩
 refine drM_s hS ?_;intro w hS
 obtain ⟨⟨t22,t23,t24,t25⟩,ho22,h⟩:=bnd h
 refine wk_dyad_made H hS (Ent.bg mp0) ho22 ?_;clear hS ho22;rintro a30 m30 c30 w hS
 refine ⟨_,_,_,_,_,_,rfl,?_⟩
 refine drM_s hS ?_;intro w hS
 replace hS:=ro4 hS
 refine stc_s hS rfl rfl ?_;intro w hS
 refine stc_s hS rfl rfl ?_;intro w hS
 refine stc_s hS rfl rfl ?_;intro w hS
 refine drM_s hS ?_;intro w hS
 refine ⟨_,hS.cel mp0 rfl,_,_,_,hS.cel mp0 rfl,_,hS.cel mp0 rfl,?_⟩
 cases some_inj h
 exact hK _ _ _ _ (hS.pick (A:=[_,_,_,_,_,_,_,_]) [1] rfl)
theorem wk_dyad_Neg {qe qf qb qd l0_1 qg u0 u1 u2 u3} (hS:Ho w0 w L) (qm:EU L l0_1 qf qb qd) (h:T_dyad_Neg qe l0_1 qg=some (u0,u1,u2,u3)) (hK:∀ (a1:OA) (n1 c1:Nat) (w1:World),Ho w0 w1 ((sl a1 n1 c1 (List.map (Value.int .u64) u1) N.t_uint64)::L)→K (.tuple #[.agg #[.bool u0,.slice a1 n1 c1,.int .i64 u2],.int .i64 u3]) w1):CallsX P N.f_dyad_Neg #[.agg #[.bool qe,.slice qf qb qd,.int .i64 qg]] w K:=by
 refine H.dyad_Neg qe qf qb qd qg w _ ?_
 unfold S_dyad_Neg
 unfold T_dyad_Neg at h
 try dsimp only
 refine newM_s hS ?_;intro r1 w hS
 refine newM_s hS ?_;intro r2 w hS
 refine ⟨_,hS.cel mp1 rfl,_,_,_,hS.cel mp1 rfl,_,hS.cel mp1 rfl,?_⟩
 obtain ⟨t1,ht1,h⟩:=bnd h
 refine wk_dyad_Right H hS (qm.mono tl2) ht1 ?_;rintro w hS
 refine ⟨_,rfl,?_⟩
 refine cond_s h ?_ ?_<;>intro hc h
 ·
  refine stc_s hS rfl rfl ?_;intro w hS
  refine stc_s hS rfl rfl ?_;intro w hS
  refine stc_s hS rfl rfl ?_;intro w hS
  refine ⟨_,hS.cel mp0 rfl,_,_,_,hS.cel mp0 rfl,_,hS.cel mp0 rfl,?_⟩
  replace hS:=hS.none (α:=Int) (enc:=(Value.int .u64)) (t:=N.t_uint64)
  cases some_inj h
  exact hK _ _ _ _ (hS.pick (A:=[_,_,_]) [0] rfl)
 refine ⟨_,hS.cel mp1 rfl,?_⟩
 refine cond_s h ?_ ?_<;>intro hc h
 ·
  refine ⟨_,_,_,hS.cel mp1 rfl,?_⟩
  obtain ⟨t2,ht2,h⟩:=bnd h
  obtain rfl:=lenE ht2 ((qm.mono tl2).now (fun _ h=>h) hS)
  refine ⟨_,hS.cel mp1 rfl,?_⟩
  refine newM_s hS ?_;intro r3 w hS
  refine stc_s hS rfl rfl ?_;intro w hS
  refine stc_s hS rfl rfl ?_;intro w hS
  refine stc_s hS rfl rfl ?_;intro w hS
  refine ⟨_,_,_,hS.cel mp0 rfl,_,_,_,hS.cel mp2 rfl,?_⟩
  obtain ⟨t3,ht3,h⟩:=bnd h
  obtain ⟨rfl,kt3⟩:=appE ht3
  replace hS:=hS.none (α:=Int) (enc:=(Value.int .u64)) (t:=N.t_uint64)
  refine app_s hS kt3 ((qm.mono tl4).now (fun _ h=>h) hS) (fun _=>rfl) rfl ?_;clear hS kt3;intro a4 c4 w hS
  replace hS:=ro1 hS
  refine stc_s hS rfl rfl ?_;intro w hS
  refine ⟨_,hS.cel mp0 rfl,_,_,_,hS.cel mp0 rfl,_,hS.cel mp0 rfl,?_⟩
  replace hS:=ro2 hS
  refine stc_s hS rfl rfl ?_;intro w hS
  refine stc_s hS rfl rfl ?_;intro w hS
  refine stc_s hS rfl rfl ?_;intro w hS
  refine ⟨_,hS.cel mp0 rfl,_,_,_,hS.cel mp0 rfl,_,hS.cel mp0 rfl,?_⟩
  cases some_inj h
  exact hK _ _ _ _ (hS.pick (A:=[_,_,_,_]) [2] rfl)
 refine ⟨_,hS.cel mp1 rfl,?_⟩
 refine newM_s hS ?_;intro r5 w hS
 refine stc_s hS rfl rfl ?_;intro w hS
 refine stc_s hS rfl rfl ?_;intro w hS
 refine stc_s hS rfl rfl ?_;intro w hS
 refine ⟨_,_,_,hS.cel mp0 rfl,_,_,_,hS.cel mp2 rfl,?_⟩
 obtain ⟨t4,ht4,h⟩:=bnd h
 obtain ⟨rfl,kt4⟩:=appE ht4
 replace hS:=hS.none (α:=Int) (enc:=(Value.int .u64)) (t:=N.t_uint64)
 refine app_s hS kt4 ((qm.mono tl4).now (fun _ h=>h) hS) (fun _=>rfl) rfl ?_;clear hS kt4;intro a6 c6 w hS
 replace hS:=ro1 hS
 refine stc_s hS rfl rfl ?_;intro w hS
 refine ⟨_,hS.cel mp0 rfl,_,_,_,hS.cel mp0 rfl,_,hS.cel mp0 rfl,?_⟩
 replace hS:=ro2 hS
 refine stc_s hS rfl rfl ?_;intro w hS
 refine stc_s hS rfl rfl ?_;intro w hS
 refine stc_s hS rfl rfl ?_;intro w hS
 refine ⟨_,hS.cel mp0 rfl,_,_,_,hS.cel mp0 rfl,_,hS.cel mp0 rfl,?_⟩
 cases some_inj h
 exact hK _ _ _ _ (hS.pick (A:=[_,_,_,_]) [2] rfl)
end Go.Eng
