/-
 Each function comes to what its function of plain Lean says, printed by a program of the session. No condition.
-/
import Derived.Test.YtgbilchfljlbeaaGreatDoorWk1
set_option linter.all false
set_option maxRecDepth 100000
set_option maxHeartbeats 4000000
namespace Go.Eng
open Go
open Go.IntKind (i64 u64 u32 u8)
variable {N:Nums} {P:Program} (H:AllOk N P) {w0 w:World} {L:List It} {K:KV}
include H
theorem wk_vector_fit {q0 qh qn vu q1 qk qp vr u0} (hS:Ho w0 w L) (qu:EF L vu q0 qh qn) (qy:EF L vr q1 qk qp) (h:T_vector_fit (List.map nf vu) (List.map nf vr)=some u0) (hK:∀ w1,Ho w0 w1 L→K (.int .i64 u0) w1):CallsX P N.f_vector_fit #[.slice q0 qh qn,.slice q1 qk qp] w K:=by
 refine H.vector_fit q0 qh qn q1 qk qp w _ ?_
 unfold S_vector_fit
 unfold T_vector_fit at h
 try dsimp only
 obtain ⟨t1,ht1,h⟩:=bnd h
 obtain rfl:=lenF ht1 (qu.now (fun _ h=>h) hS)
 obtain ⟨t2,ht2,h⟩:=bnd h
 obtain rfl:=lenF ht2 (qy.now (fun _ h=>h) hS)
 refine cond_s h ?_ ?_<;>intro hc h
 ·
  cases some_inj h
  exact hK _ hS
 obtain ⟨t3,ht3,h⟩:=bnd h
 obtain rfl:=lenF ht3 (qu.now (fun _ h=>h) hS)
 refine cond_s h ?_ ?_<;>intro hc h
 ·
  cases some_inj h
  exact hK _ hS
 cases some_inj h
 exact hK _ hS
theorem wk_vector_each {q0 qh qn vu q1 qk qp vr} {q2:Value} {f2:Nat→Nat→Option Nat} {u0 u1} (hS:Ho w0 w L) (qu:EF L vu q0 qh qn) (qy:EF L vr q1 qk qp) (hf2:∀ (v0:Nat) (v1:Nat) (w:World) (L1:List It) (r1:Nat) (K:KV),(∀ e,e∈L→e∈L1)→f2 (nf v0) (nf v1)=some r1→Ho w0 w L1→(∀ (z:Nat) (w1:World),nf z=r1→Ho w0 w1 L1→K (.float .f64 z) w1)→fnM q2 fun g gp gq=>CallsX P g (gp.toList++(([.float .f64 v0,.float .f64 v1]:List Value)++gq.toList)).toArray w K) (h:T_vector_each (List.map nf vu) (List.map nf vr) f2=some (u0,u1)) (hK:∀ (a0:OA) (n0 c0:Nat) (rws0:List Nat) (w1:World),List.map nf rws0=u0→Ho w0 w1 ((sl a0 n0 c0 (List.map (Value.float .f64) rws0) N.t_float64)::L)→K (.tuple #[.slice a0 n0 c0,.int .i64 u1]) w1):CallsX P N.f_vector_each #[.slice q0 qh qn,.slice q1 qk qp,q2] w K:=by
 refine H.vector_each q0 qh qn q1 qk qp q2 w _ ?_
 unfold S_vector_each
 unfold T_vector_each at h
 try dsimp only
 obtain ⟨t1,ht1,h⟩:=bnd h
 refine wk_vector_fit H hS qu qy ht1 ?_;rintro w hS
 refine ⟨_,rfl,?_⟩
 refine cond_s h ?_ ?_<;>intro hc h
 ·
  replace hS:=hS.none (α:=Nat) (enc:=(Value.float .f64)) (t:=N.t_float64)
  cases some_inj h
  exact hK _ _ _ _ _ rfl hS
 obtain ⟨t2,ht2,h⟩:=bnd h
 obtain rfl:=lenF ht2 (qu.now (fun _ h=>h) hS)
 obtain ⟨t3,ht3,h⟩:=bnd h
 obtain ⟨rfl,kt3⟩:=mkF ht3
 refine mk_s (enc:=(Value.float .f64)) hS kt3 rfl ?_;clear hS kt3;intro r1 w hS
 obtain ⟨t4,ht4,h⟩:=bnd h
 obtain rfl:=lenF ht4 ((qu.mono tl1).now (fun _ h=>h) hS)
 obtain ⟨o3,h3,c3⟩:=bnd h
 refine cutM_i (fun s w=>∃ (yh:List Nat),(List.map nf yh)=o3∧s=(())∧Ho w0 w ((sl (some ⟨r1,0,none⟩) (((qh:Int)).toNat) (((qh:Int)).toNat) (List.map (Value.float .f64) yh) N.t_float64)::L)) (fun J3 hJ3=>?_) ?_
 ·
  have h:=h3
  clear h3
  refine iter_sim (fun s w t=>∃ (t6:Int) (jv:List Nat),(t6,(List.map nf jv))=t∧s=(t6,())∧Ho w0 w ((sl (some ⟨r1,0,none⟩) (((qh:Int)).toNat) (((qh:Int)).toNat) (List.map (Value.float .f64) jv) N.t_float64)::L)) ?_ h ⟨_,_,rfl,rfl,hS⟩
  clear h hS
  rintro s w t X q ⟨t6,jv,rfl,rfl,hS⟩ h hX hO
  unfold T_vector_each_b2 at h
  try dsimp only
  refine cond_s h ?_ ?_<;>intro hc h
  ·
   obtain ⟨t8,ht8,h⟩:=bnd h
   obtain ⟨z5,rfl,q6x,ym,q6r⟩:=atF ht8
   refine idx_s ((qu.mono tl1).now (fun _ h=>h) hS) q6x ym q6r ?_;intro b7 hb7
   refine ⟨_,rd_get ((qu.mono tl1).now (fun _ h=>h) hS) hb7 q6x,?_⟩
   obtain ⟨t9,ht9,h⟩:=bnd h
   obtain ⟨z8,rfl,q9x,jw,q9r⟩:=atF ht9
   refine idx_s ((qy.mono tl1).now (fun _ h=>h) hS) q9x jw q9r ?_;intro b10 hb10
   refine ⟨_,rd_get ((qy.mono tl1).now (fun _ h=>h) hS) hb10 q9x,?_⟩
   refine drM_s hS ?_;intro w hS
   obtain ⟨t10,ht10,h⟩:=bnd h
   refine hf2 _ _ _ _ _ _ tl1 ht10 hS ?_;rintro z11 w rfl hS
   refine ⟨_,rfl,?_⟩
   obtain ⟨t11,ht11,h⟩:=bnd h
   obtain ⟨z12,rfl,q13x,yx,q13r⟩:=atF ht11
   refine idy_s ((Ent.sl mp0).now (fun _ h=>h) hS) q13x yx q13r ?_
   refine drM_s hS ?_;intro w hS
   obtain ⟨t12,ht12,h⟩:=bnd h
   obtain rfl:=setF ht12
   refine sto_s hS rfl q13r ?_;intro w hS
   refine drM_s hS ?_;intro w hS
   obtain rfl:=some_inj h
   exact hX _ rfl _ _ ⟨_,_,rfl,rfl,hS⟩
  obtain rfl:=some_inj h
  have h:=congrArg some (hO _ rfl)
  exact hJ3 _ _ ⟨_,some_inj h,rfl,hS⟩
 clear h3 hS
 rintro s w ⟨yh,rfl,rfl,hS⟩
 have h:=c3
 clear c3
 try dsimp only
 cases some_inj h
 exact hK _ _ _ _ _ rfl hS
theorem wk_vector_Add_1 {q0 q1 u0} (hS:Ho w0 w L)  (h:T_vector_Add_1 (nf q0) (nf q1)=some u0) (hK:∀ (z0:Nat) (w1:World),nf z0=u0→Ho w0 w1 L→K (.float .f64 z0) w1):CallsX P N.f_vector_Add_1 #[.float .f64 q0,.float .f64 q1] w K:=by
 refine H.vector_Add_1 q0 q1 w _ ?_
 unfold S_vector_Add_1
 unfold T_vector_Add_1 at h
 try dsimp only
 obtain ⟨t1,ht1,h⟩:=bnd h
 refine fadd_s ht1 hS ?_;rintro z1 w rfl hS
 cases some_inj h
 exact hK _ _ rfl hS
theorem wk_vector_Add {q0 qh qn vu q1 qk qp vr u0 u1} (hS:Ho w0 w L) (qu:EF L vu q0 qh qn) (qy:EF L vr q1 qk qp) (hx:T_vector_Add (List.map nf vu) (List.map nf vr)=some (u0,u1)) (hK:∀ (a0:OA) (n0 c0:Nat) (rws0:List Nat) (w1:World),List.map nf rws0=u0→Ho w0 w1 ((sl a0 n0 c0 (List.map (Value.float .f64) rws0) N.t_float64)::L)→K (.tuple #[.slice a0 n0 c0,.int .i64 u1]) w1):CallsX P N.f_vector_Add #[.slice q0 qh qn,.slice q1 qk qp] w K:=by
 refine H.vector_Add q0 qh qn q1 qk qp w _ ?_
 unfold S_vector_Add
 unfold T_vector_Add at hx
 have h:=hx
 clear hx
 try dsimp only
 obtain ⟨⟨t1,t2⟩,ho1,h⟩:=bnd h
 refine wk_vector_each H hS qu qy (by intro v0 v1 w L1 r1 K hL hx hS hK;exact wk_vector_Add_1 H hS  hx hK) ho1 ?_;clear hS ho1;rintro a1 m1 c1 vr w rfl hS
 refine ⟨_,_,_,_,rfl,?_⟩
 cases some_inj h
 exact hK _ _ _ _ _ rfl hS
theorem wk_refine_Step {qa qb qc qd qe qs ql qm qi qj ye qt qv qw yf q2 qx vo yh q3 vt yk yt u0 u1} (hS:Ho w0 w L) (qq:EF L qs qc qd qe) (qr:EF L ye qm qi qj) (yg:EF L yf qt qv qw) (yl:EF L yh q2 qx vo) (jp:EF L yt q3 vt yk) (hG:Ent L (tab64 N.g_1)) (h:T_refine_Step qa qb (List.map nf qs) ql (List.map nf ye) (List.map nf yf) (List.map nf yh) (List.map nf yt)=some (u0,u1)) (hK:∀ (a0:OA) (n0 c0:Nat) (rws0:List Nat) (w1:World),List.map nf rws0=u0→Ho w0 w1 ((sl a0 n0 c0 (List.map (Value.float .f64) rws0) N.t_float64)::L)→K (.tuple #[.slice a0 n0 c0,.int .i64 u1]) w1):CallsX P N.f_refine_Step #[.agg #[.int .i64 qa,.int .i64 qb,.slice qc qd qe],.agg #[.int .i64 ql,.slice qm qi qj,.slice qt qv qw],.slice q2 qx vo,.slice q3 vt yk] w K:=by
 refine H.refine_Step qa qb qc qd qe ql qm qi qj qt qv qw q2 qx vo q3 vt yk w _ ?_
 unfold S_refine_Step
 unfold T_refine_Step at h
 try dsimp only
 refine newM_s hS ?_;intro r1 w hS
 refine newM_s hS ?_;intro r2 w hS
 obtain ⟨o3,h3,c3⟩:=bnd h
 refine cutM_i (fun s w=>∃ (t1:Bool),t1=o3∧s=(t1,())∧Ho w0 w ((cl r2 [.int .i64 ql,.slice qm qi qj,.slice qt qv qw] N.t_Factor)::(cl r1 [.int .i64 qa,.int .i64 qb,.slice qc qd qe] N.t_Matrix)::L)) (fun J3 hJ3=>?_) ?_
 ·
  have h:=h3
  clear h3
  refine ⟨_,hS.cel mp1 rfl,_,hS.cel mp1 rfl,_,_,_,hS.cel mp1 rfl,?_⟩
  obtain ⟨t2,ht2,h⟩:=bnd h
  refine wk_refine_fit H hS (qq.mono tl2) (yl.mono tl2) (jp.mono tl2) ht2 ?_;rintro w hS
  refine ⟨_,rfl,?_⟩
  refine cond_s h ?_ ?_<;>intro hc h
  ·
   refine ⟨_,hS.cel mp1 rfl,_,hS.cel mp1 rfl,_,_,_,hS.cel mp1 rfl,_,hS.cel mp0 rfl,_,_,_,hS.cel mp0 rfl,_,_,_,hS.cel mp0 rfl,?_⟩
   obtain ⟨t3,ht3,h⟩:=bnd h
   refine wk_refine_fits H hS (qq.mono tl2) (qr.mono tl2) (yg.mono tl2) ht3 ?_;rintro w hS
   refine ⟨_,rfl,?_⟩
   exact hJ3 _ _ ⟨_,some_inj h,rfl,hS⟩
  exact hJ3 _ _ ⟨_,some_inj h,rfl,hS⟩
 clear h3 hS
 rintro s w ⟨t1,rfl,rfl,hS⟩
 have h:=c3
 clear c3
 try dsimp only
 refine cond_s h ?_ ?_<;>intro hc h
 ·
  replace hS:=hS.none (α:=Nat) (enc:=(Value.float .f64)) (t:=N.t_float64)
  cases some_inj h
  exact hK _ _ _ _ _ rfl (hS.pick (A:=[_,_,_]) [0] rfl)
 refine ⟨_,hS.cel mp1 rfl,_,hS.cel mp1 rfl,_,_,_,hS.cel mp1 rfl,?_⟩
 obtain ⟨⟨t4,t5⟩,ho4,h⟩:=bnd h
 refine wk_refine_Left H hS (qq.mono tl2) (yl.mono tl2) (jp.mono tl2) (hG.mono tl2) ho4 ?_;clear hS ho4;rintro a4 m4 c4 jv w rfl hS
 refine ⟨_,_,_,_,rfl,?_⟩
 refine cond_s h ?_ ?_<;>intro hc h
 ·
  replace hS:=hS.none (α:=Nat) (enc:=(Value.float .f64)) (t:=N.t_float64)
  cases some_inj h
  exact hK _ _ _ _ _ rfl (hS.pick (A:=[_,_,_,_]) [0] rfl)
 refine ⟨_,hS.cel mp1 rfl,_,_,_,hS.cel mp1 rfl,_,_,_,hS.cel mp1 rfl,?_⟩
 obtain ⟨⟨t6,t7⟩,ho6,h⟩:=bnd h
 refine wk_solve_Solve H hS (qr.mono tl3) (yg.mono tl3) (Ent.sl mp0) ho6 ?_;clear hS ho6;rintro a5 m5 c5 jh w rfl hS
 refine ⟨_,_,_,_,rfl,?_⟩
 refine cond_s h ?_ ?_<;>intro hc h
 ·
  replace hS:=hS.none (α:=Nat) (enc:=(Value.float .f64)) (t:=N.t_float64)
  cases some_inj h
  exact hK _ _ _ _ _ rfl (hS.pick (A:=[_,_,_,_,_]) [0] rfl)
 obtain ⟨⟨t8,t9⟩,ho8,h⟩:=bnd h
 refine wk_vector_Add H hS (yl.mono tl4) (Ent.sl mp0) ho8 ?_;clear hS ho8;rintro a6 m6 c6 jf w rfl hS
 refine ⟨_,_,_,_,rfl,?_⟩
 obtain ⟨t10,ht10,h⟩:=bnd h
 obtain rfl:(List.map (List.map nf) ([jf]:List (List Nat)))=t10:=some_inj ht10
 refine lit_s (ks:=([(a6,m6,c6)]:List Hd)) (enc:=hdV) (m:=1) hS rfl rfl ?_;intro r7 w hS
 obtain ⟨t11,ht11,h⟩:=bnd h
 refine wk_refine_finite H hS (Ent.sl mp0) (.cons (Ent.sl mp1) .nil) ht11 ?_;rintro w hS
 refine ⟨_,rfl,?_⟩
 refine cond_s h ?_ ?_<;>intro hc h
 ·
  replace hS:=hS.none (α:=Nat) (enc:=(Value.float .f64)) (t:=N.t_float64)
  cases some_inj h
  exact hK _ _ _ _ _ rfl (hS.pick (A:=[_,_,_,_,_,_,_]) [0] rfl)
 cases some_inj h
 exact hK _ _ _ _ _ rfl (hS.pick (A:=[_,_,_,_,_,_]) [1] rfl)
theorem wk_refine_Until {qa qb qc qd qe qs ql qm qi qj ye qt qv qw yf q2 qx vo yh q3 u0 u1 u2} (hS:Ho w0 w L) (qq:EF L qs qc qd qe) (qr:EF L ye qm qi qj) (yg:EF L yf qt qv qw) (yl:EF L yh q2 qx vo) (hG:Ent L (tab64 N.g_1)) (h:T_refine_Until qa qb (List.map nf qs) ql (List.map nf ye) (List.map nf yf) (List.map nf yh) q3=some (u0,u1,u2)) (hK:∀ (a0:OA) (n0 c0:Nat) (rws0:List Nat) (w1:World),List.map nf rws0=u0→Ho w0 w1 ((sl a0 n0 c0 (List.map (Value.float .f64) rws0) N.t_float64)::L)→K (.tuple #[.slice a0 n0 c0,.int .i64 u1,.int .i64 u2]) w1):CallsX P N.f_refine_Until #[.agg #[.int .i64 qa,.int .i64 qb,.slice qc qd qe],.agg #[.int .i64 ql,.slice qm qi qj,.slice qt qv qw],.slice q2 qx vo,.int .i64 q3] w K:=by
 refine H.refine_Until qa qb qc qd qe ql qm qi qj qt qv qw q2 qx vo q3 w _ ?_
 unfold S_refine_Until
 unfold T_refine_Until at h
 try dsimp only
 refine newM_s hS ?_;intro r1 w hS
 refine newM_s hS ?_;intro r2 w hS
 obtain ⟨o3,h3,c3⟩:=bnd h
 refine cutM_i (fun s w=>∃ (t1:Bool),t1=o3∧s=(t1,())∧Ho w0 w ((cl r2 [.int .i64 ql,.slice qm qi qj,.slice qt qv qw] N.t_Factor)::(cl r1 [.int .i64 qa,.int .i64 qb,.slice qc qd qe] N.t_Matrix)::L)) (fun J3 hJ3=>?_) ?_
 ·
  have h:=h3
  clear h3
  refine cond_s h ?_ ?_<;>intro hc h
  ·
   exact hJ3 _ _ ⟨_,some_inj h,rfl,hS⟩
  exact hJ3 _ _ ⟨_,some_inj h,rfl,hS⟩
 clear h3 hS
 rintro s w ⟨t1,rfl,rfl,hS⟩
 have h:=c3
 clear c3
 try dsimp only
 refine cond_s h ?_ ?_<;>intro hc h
 ·
  replace hS:=hS.none (α:=Nat) (enc:=(Value.float .f64)) (t:=N.t_float64)
  cases some_inj h
  exact hK _ _ _ _ _ rfl (hS.pick (A:=[_,_,_]) [0] rfl)
 obtain ⟨o4,h4,c4⟩:=bnd h
 refine cutM_i (fun s w=>∃ (t2:Bool),t2=o4∧s=(t2,())∧Ho w0 w ((cl r2 [.int .i64 ql,.slice qm qi qj,.slice qt qv qw] N.t_Factor)::(cl r1 [.int .i64 qa,.int .i64 qb,.slice qc qd qe] N.t_Matrix)::L)) (fun J4 hJ4=>?_) ?_
 ·
  have h:=h4
  clear h4
  refine ⟨_,hS.cel mp1 rfl,_,hS.cel mp1 rfl,_,_,_,hS.cel mp1 rfl,_,hS.cel mp0 rfl,_,_,_,hS.cel mp0 rfl,_,_,_,hS.cel mp0 rfl,?_⟩
  obtain ⟨t3,ht3,h⟩:=bnd h
  refine wk_refine_fits H hS (qq.mono tl2) (qr.mono tl2) (yg.mono tl2) ht3 ?_;rintro w hS
  refine ⟨_,rfl,?_⟩
  refine cond_s h ?_ ?_<;>intro hc h
  ·
   obtain ⟨t4,ht4,h⟩:=bnd h
   obtain rfl:=lenF ht4 ((yl.mono tl2).now (fun _ h=>h) hS)
   refine ⟨_,hS.cel mp1 rfl,?_⟩
   exact hJ4 _ _ ⟨_,some_inj h,rfl,hS⟩
  exact hJ4 _ _ ⟨_,some_inj h,rfl,hS⟩
 clear h4 hS
 rintro s w ⟨t2,rfl,rfl,hS⟩
 have h:=c4
 clear c4
 try dsimp only
 refine cond_s h ?_ ?_<;>intro hc h
 ·
  replace hS:=hS.none (α:=Nat) (enc:=(Value.float .f64)) (t:=N.t_float64)
  cases some_inj h
  exact hK _ _ _ _ _ rfl (hS.pick (A:=[_,_,_]) [0] rfl)
 refine ⟨_,_,_,hS.cel mp1 rfl,?_⟩
 obtain ⟨t5,ht5,h⟩:=bnd h
 obtain rfl:(List.map (List.map nf) ([qs,yh]:List (List Nat)))=t5:=some_inj ht5
 refine lit_s (ks:=([(qc,qd,qe),(q2,qx,vo)]:List Hd)) (enc:=hdV) (m:=2) hS rfl rfl ?_;intro r5 w hS
 obtain ⟨t6,ht6,h⟩:=bnd h
 refine wk_refine_finite H hS (Ent.sl mp0) (.cons (qq.mono tl3) (.cons (yl.mono tl3) .nil)) ht6 ?_;rintro w hS
 refine ⟨_,rfl,?_⟩
 refine cond_s h ?_ ?_<;>intro hc h
 ·
  replace hS:=hS.none (α:=Nat) (enc:=(Value.float .f64)) (t:=N.t_float64)
  cases some_inj h
  exact hK _ _ _ _ _ rfl (hS.pick (A:=[_,_,_,_]) [0] rfl)
 refine ⟨_,hS.cel mp1 rfl,_,_,_,hS.cel mp1 rfl,_,_,_,hS.cel mp1 rfl,?_⟩
 obtain ⟨⟨t7,t8⟩,ho7,h⟩:=bnd h
 refine wk_solve_Solve H hS (qr.mono tl3) (yg.mono tl3) (yl.mono tl3) ho7 ?_;clear hS ho7;rintro a6 m6 c6 jf w rfl hS
 refine ⟨_,_,_,_,rfl,?_⟩
 refine cond_s h ?_ ?_<;>intro hc h
 ·
  replace hS:=hS.none (α:=Nat) (enc:=(Value.float .f64)) (t:=N.t_float64)
  cases some_inj h
  exact hK _ _ _ _ _ rfl (hS.pick (A:=[_,_,_,_,_]) [0] rfl)
 obtain ⟨t9,ht9,h⟩:=bnd h
 obtain rfl:(List.map (List.map nf) ([jf]:List (List Nat)))=t9:=some_inj ht9
 refine lit_s (ks:=([(a6,m6,c6)]:List Hd)) (enc:=hdV) (m:=1) hS rfl rfl ?_;intro r7 w hS
 obtain ⟨t10,ht10,h⟩:=bnd h
 refine wk_refine_finite H hS (Ent.sl mp0) (.cons (Ent.sl mp1) .nil) ht10 ?_;rintro w hS
 refine ⟨_,rfl,?_⟩
 refine cond_s h ?_ ?_<;>intro hc h
 ·
  replace hS:=hS.none (α:=Nat) (enc:=(Value.float .f64)) (t:=N.t_float64)
  cases some_inj h
  exact hK _ _ _ _ _ rfl (hS.pick (A:=[_,_,_,_,_,_]) [0] rfl)
 refine ⟨_,hS.cel mp4 rfl,_,hS.cel mp4 rfl,_,_,_,hS.cel mp4 rfl,?_⟩
 obtain ⟨⟨t11,t12⟩,ho11,h⟩:=bnd h
 refine wk_refine_Left H hS (qq.mono tl5) (Ent.sl mp1) (yl.mono tl5) (hG.mono tl5) ho11 ?_;clear hS ho11;rintro a8 m8 c8 jb w rfl hS
 refine ⟨_,_,_,_,rfl,?_⟩
 refine cond_s h ?_ ?_<;>intro hc h
 ·
  replace hS:=hS.none (α:=Nat) (enc:=(Value.float .f64)) (t:=N.t_float64)
  cases some_inj h
  exact hK _ _ _ _ _ rfl (hS.pick (A:=[_,_,_,_,_,_,_]) [0] rfl)
 obtain ⟨t13,ht13,h⟩:=bnd h
 refine wk_vector_Norm H hS (Ent.sl mp0) ht13 ?_;rintro z9 w rfl hS
 refine ⟨_,rfl,?_⟩
 obtain ⟨o14,h14,c14⟩:=bnd h
 refine cutM_i (fun s w=>∃ (a10:OA) (m11:Nat) (c12:Nat) (yn:List Nat),.inl (List.map nf yn)=o14∧s=((a10,m11,c12),())∧Ho w0 w ((sl a10 m11 c12 (List.map (Value.float .f64) yn) N.t_float64)::L)) (fun J14 hJ14=>?_) ?_
 ·
  have h:=h14
  clear h14
  refine iter_sim (fun s w t=>∃ (z15:Nat) (t16:Int) (a16:OA) (m17:Nat) (c18:Nat) (yu:List Nat),((nf z15),t16,(List.map nf yu))=t∧s=((a16,m17,c18),z15,t16,())∧Ho w0 w ((cl r2 [.int .i64 ql,.slice qm qi qj,.slice qt qv qw] N.t_Factor)::(cl r1 [.int .i64 qa,.int .i64 qb,.slice qc qd qe] N.t_Matrix)::(sl a16 m17 c18 (List.map (Value.float .f64) yu) N.t_float64)::L)) ?_ h ⟨_,_,_,_,_,_,rfl,rfl,(hS.pick (A:=[_,_,_,_,_,_]) [4,4,2] rfl)⟩
  clear h hS
  rintro s w t X q ⟨z15,t16,a16,m17,c18,yu,rfl,rfl,hS⟩ h hX hO
  unfold T_refine_Until_b2 at h
  try dsimp only
  refine cond_s h ?_ ?_<;>intro hc h
  ·
   refine ⟨_,hS.cel mp1 rfl,_,hS.cel mp1 rfl,_,_,_,hS.cel mp1 rfl,_,hS.cel mp0 rfl,_,_,_,hS.cel mp0 rfl,_,_,_,hS.cel mp0 rfl,?_⟩
   obtain ⟨⟨t18,t19⟩,ho18,h⟩:=bnd h
   refine wk_refine_Step H hS (qq.mono tl3) (qr.mono tl3) (yg.mono tl3) (Ent.sl mp2) (yl.mono tl3) (hG.mono tl3) ho18 ?_;clear hS ho18;rintro a20 m20 c20 zl w rfl hS
   refine ⟨_,_,_,_,rfl,?_⟩
   refine cond_s h ?_ ?_<;>intro hc h
   ·
    obtain rfl:=some_inj h
    have h:=congrArg some (hO _ rfl)
    obtain rfl:=some_inj h
    have h:=c14
    cases some_inj h
    exact hK _ _ _ _ _ rfl (hS.pick (A:=[_,_,_,_]) [3] rfl)
   refine ⟨_,hS.cel mp2 rfl,_,hS.cel mp2 rfl,_,_,_,hS.cel mp2 rfl,?_⟩
   obtain ⟨⟨t20,t21⟩,ho20,h⟩:=bnd h
   refine wk_refine_Left H hS (qq.mono tl4) (Ent.sl mp0) (yl.mono tl4) (hG.mono tl4) ho20 ?_;clear hS ho20;rintro a21 m21 c21 jg w rfl hS
   refine ⟨_,_,_,_,rfl,?_⟩
   refine cond_s h ?_ ?_<;>intro hc h
   ·
    obtain ⟨t22,ht22,h⟩:=bnd h
    refine wk_vector_Norm H hS (Ent.sl mp0) ht22 ?_;rintro z22 w rfl hS
    refine ⟨_,rfl,?_⟩
    obtain ⟨t23,ht23,h⟩:=bnd h
    obtain rfl:=fge_s ht23
    refine cond_s h ?_ ?_<;>intro hc h
    ·
     obtain rfl:=some_inj h
     have h:=congrArg some (hO _ rfl)
     obtain rfl:=some_inj h
     have h:=c14
     cases some_inj h
     exact hK _ _ _ _ _ rfl (hS.pick (A:=[_,_,_,_,_]) [4] rfl)
    obtain ⟨t24,ht24,h⟩:=bnd h
    refine wk_vector_Norm H hS (Ent.sl mp0) ht24 ?_;rintro z23 w rfl hS
    refine ⟨_,rfl,?_⟩
    obtain rfl:=some_inj h
    exact hX _ rfl _ _ ⟨_,_,_,_,_,_,rfl,rfl,(hS.pick (A:=[_,_,_,_,_]) [2,2,1] rfl)⟩
   obtain rfl:=some_inj h
   have h:=congrArg some (hO _ rfl)
   obtain rfl:=some_inj h
   have h:=c14
   cases some_inj h
   exact hK _ _ _ _ _ rfl (hS.pick (A:=[_,_,_,_,_]) [4] rfl)
  obtain rfl:=some_inj h
  have h:=congrArg some (hO _ rfl)
  obtain rfl:=some_inj h
  exact hJ14 _ _ ⟨_,_,_,_,rfl,rfl,(hS.pick (A:=[_,_,_]) [2] rfl)⟩
 clear h14 hS
 rintro s w ⟨a10,m11,c12,yn,rfl,rfl,hS⟩
 have h:=c14
 clear c14
 try dsimp only
 cases some_inj h
 exact hK _ _ _ _ _ rfl hS
theorem wk_k_Like {q0 q1 u0} (hS:Ho w0 w L)  (h:T_k_Like (nf q0) (nf q1)=some u0) (hK:∀ w1,Ho w0 w1 L→K (.bool u0) w1):CallsX P N.f_k_Like #[.float .f64 q0,.float .f64 q1] w K:=by
 refine H.k_Like q0 q1 w _ ?_
 unfold S_k_Like
 unfold T_k_Like at h
 try dsimp only
 obtain ⟨t1,ht1,h⟩:=bnd h
 obtain rfl:=feq_s ht1
 refine cond_s h ?_ ?_<;>intro hc h
 ·
  obtain ⟨t2,ht2,h⟩:=bnd h
  obtain rfl:=fne_s ht2
  refine cond_s h ?_ ?_<;>intro hc h
  ·
   obtain ⟨t3,ht3,h⟩:=bnd h
   obtain rfl:=fne_s ht3
   cases some_inj h
   exact hK _ hS
  cases some_inj h
  exact hK _ hS
 cases some_inj h
 exact hK _ hS
theorem wk_k_LikeReals {q0 qh qn vu q1 qk qp vr u0} (hS:Ho w0 w L) (qu:EF L vu q0 qh qn) (qy:EF L vr q1 qk qp) (h:T_k_LikeReals (List.map nf vu) (List.map nf vr)=some u0) (hK:∀ w1,Ho w0 w1 L→K (.bool u0) w1):CallsX P N.f_k_LikeReals #[.slice q0 qh qn,.slice q1 qk qp] w K:=by
 refine H.k_LikeReals q0 qh qn q1 qk qp w _ ?_
 unfold S_k_LikeReals
 unfold T_k_LikeReals at h
 try dsimp only
 obtain ⟨t1,ht1,h⟩:=bnd h
 obtain rfl:=lenF ht1 (qu.now (fun _ h=>h) hS)
 obtain ⟨t2,ht2,h⟩:=bnd h
 obtain rfl:=lenF ht2 (qy.now (fun _ h=>h) hS)
 refine cond_s h ?_ ?_<;>intro hc h
 ·
  cases some_inj h
  exact hK _ hS
 obtain ⟨o1,h1,c1⟩:=bnd h
 refine cutM_i (fun s w =>  .inl ()=o1∧s=(())∧Ho w0 w L) (fun J1 hJ1=>?_) ?_
 ·
  have h:=h1
  clear h1
  refine iter_sim (fun s w t=>∃ (t3:Int),t3=t∧s=(t3,())∧Ho w0 w L) ?_ h ⟨_,rfl,rfl,hS⟩
  clear h hS
  rintro s w t X q ⟨t3,rfl,rfl,hS⟩ h hX hO
  unfold T_k_LikeReals_b2 at h
  try dsimp only
  obtain ⟨t4,ht4,h⟩:=bnd h
  obtain rfl:=lenF ht4 (qu.now (fun _ h=>h) hS)
  refine cond_s h ?_ ?_<;>intro hc h
  ·
   obtain ⟨t5,ht5,h⟩:=bnd h
   obtain ⟨z2,rfl,q3x,vt,q3r⟩:=atF ht5
   refine idx_s (qu.now (fun _ h=>h) hS) q3x vt q3r ?_;intro b4 hb4
   refine ⟨_,rd_get (qu.now (fun _ h=>h) hS) hb4 q3x,?_⟩
   obtain ⟨t6,ht6,h⟩:=bnd h
   obtain ⟨z5,rfl,q6x,ym,q6r⟩:=atF ht6
   refine idx_s (qy.now (fun _ h=>h) hS) q6x ym q6r ?_;intro b7 hb7
   refine ⟨_,rd_get (qy.now (fun _ h=>h) hS) hb7 q6x,?_⟩
   refine drM_s hS ?_;intro w hS
   obtain ⟨t7,ht7,h⟩:=bnd h
   refine wk_k_Like H hS  ht7 ?_;rintro w hS
   refine ⟨_,rfl,?_⟩
   refine drM_s hS ?_;intro w hS
   refine cond_s h ?_ ?_<;>intro hc h
   ·
    obtain rfl:=some_inj h
    have h:=congrArg some (hO _ rfl)
    obtain rfl:=some_inj h
    have h:=c1
    cases some_inj h
    exact hK _ hS
   obtain rfl:=some_inj h
   exact hX _ rfl _ _ ⟨_,rfl,rfl,hS⟩
  obtain rfl:=some_inj h
  have h:=congrArg some (hO _ rfl)
  exact hJ1 _ _ ⟨some_inj h,rfl,hS⟩
 clear h1 hS
 rintro s w ⟨rfl,rfl,hS⟩
 have h:=c1
 clear c1
 try dsimp only
 cases some_inj h
 exact hK _ hS
theorem wk_w14_awake  {u0} (hS:Ho w0 w L) (hG:Ent L (tab64 N.g_1)) (h:T_w14_awake  = some u0) (hK:∀ w1,Ho w0 w1 L→K (.bool u0) w1):CallsX P N.f_w14_awake #[] w K:=by
 refine H.w14_awake  w _ ?_
 unfold S_w14_awake
 unfold T_w14_awake at h
 try dsimp only
 obtain ⟨⟨t1,t2,t3,t4,t5,t6⟩,ho1,h⟩:=bnd h
 refine wk_w14_two H hS  ho1 ?_;clear hS ho1;rintro a1 m1 c1 vr a2 m2 c2 yh a3 m3 c3 yt w rfl rfl rfl hS
 refine ⟨_,_,_,_,_,_,_,_,_,_,_,_,rfl,?_⟩
 refine newM_s hS ?_;intro r4 w hS
 refine newM_s hS ?_;intro r5 w hS
 replace hS:=ro1 hS
 refine stc_s hS rfl rfl ?_;intro w hS
 refine stc_s hS rfl rfl ?_;intro w hS
 refine stc_s hS rfl rfl ?_;intro w hS
 replace hS:=ro1 hS
 refine stc_s hS rfl rfl ?_;intro w hS
 refine stc_s hS rfl rfl ?_;intro w hS
 refine stc_s hS rfl rfl ?_;intro w hS
 refine ⟨_,hS.cel mp1 rfl,_,hS.cel mp1 rfl,_,_,_,hS.cel mp1 rfl,?_⟩
 obtain ⟨t7,ht7,h⟩:=bnd h
 obtain rfl:(List.map nf ([4607182418800017408,4607182418800017408]:List Nat))=t7:=some_inj ht7
 refine lit_s (ks:=[4607182418800017408,4607182418800017408]) (enc:=(Value.float .f64)) (m:=2) hS rfl rfl ?_;intro r6 w hS
 obtain ⟨t8,ht8,h⟩:=bnd h
 obtain rfl:(List.map nf ([4618441417868443648,4616189618054758400]:List Nat))=t8:=some_inj ht8
 refine lit_s (ks:=[4618441417868443648,4616189618054758400]) (enc:=(Value.float .f64)) (m:=2) hS rfl rfl ?_;intro r7 w hS
 obtain ⟨⟨t9,t10⟩,ho9,h⟩:=bnd h
 refine wk_refine_Left H hS (Ent.sl mp4) (Ent.sl mp1) (Ent.sl mp0) (hG.mono tl7) ho9 ?_;clear hS ho9;rintro a8 m8 c8 jb w rfl hS
 refine ⟨_,_,_,_,rfl,?_⟩
 refine ⟨_,hS.cel mp4 rfl,_,hS.cel mp4 rfl,_,_,_,hS.cel mp4 rfl,_,hS.cel mp3 rfl,_,_,_,hS.cel mp3 rfl,_,_,_,hS.cel mp3 rfl,?_⟩
 obtain ⟨t11,ht11,h⟩:=bnd h
 obtain rfl:(List.map nf ([4617315517961601024,4616189618054758400]:List Nat))=t11:=some_inj ht11
 refine lit_s (ks:=[4617315517961601024,4616189618054758400]) (enc:=(Value.float .f64)) (m:=2) hS rfl rfl ?_;intro r9 w hS
 obtain ⟨⟨t12,t13,t14⟩,ho12,h⟩:=bnd h
 refine wk_refine_Until H hS (Ent.sl mp6) (Ent.sl mp7) (Ent.sl mp8) (Ent.sl mp0) (hG.mono tl9) ho12 ?_;clear hS ho12;rintro a10 m10 c10 zm w rfl hS
 refine ⟨_,_,_,_,_,rfl,?_⟩
 obtain ⟨t15,ht15,h⟩:=bnd h
 obtain rfl:(List.map nf ([4607182418800017408,4607182418800017408]:List Nat))=t15:=some_inj ht15
 refine lit_s (ks:=[4607182418800017408,4607182418800017408]) (enc:=(Value.float .f64)) (m:=2) hS rfl rfl ?_;intro r11 w hS
 obtain ⟨t16,ht16,h⟩:=bnd h
 obtain rfl:(List.map nf ([4877398396442247168,4607182418800017408]:List Nat))=t16:=some_inj ht16
 refine lit_s (ks:=[4877398396442247168,4607182418800017408]) (enc:=(Value.float .f64)) (m:=2) hS rfl rfl ?_;intro r12 w hS
 obtain ⟨t17,ht17,h⟩:=bnd h
 obtain rfl:(List.map nf ([4877398396442247168]:List Nat))=t17:=some_inj ht17
 refine lit_s (ks:=[4877398396442247168]) (enc:=(Value.float .f64)) (m:=1) hS rfl rfl ?_;intro r13 w hS
 obtain ⟨⟨t18,t19⟩,ho18,h⟩:=bnd h
 refine wk_refine_Left H hS (Ent.sl mp2) (Ent.sl mp1) (Ent.sl mp0) (hG.mono tl13) ho18 ?_;clear hS ho18;rintro a14 m14 c14 zn w rfl hS
 refine ⟨_,_,_,_,rfl,?_⟩
 refine cond_s h ?_ ?_<;>intro hc h
 ·
  refine cond_s h ?_ ?_<;>intro hc h
  ·
   refine cond_s h ?_ ?_<;>intro hc h
   ·
    obtain ⟨t20,ht20,h⟩:=bnd h
    obtain rfl:(List.map nf ([4607182418800017408,0]:List Nat))=t20:=some_inj ht20
    refine lit_s (ks:=[4607182418800017408,0]) (enc:=(Value.float .f64)) (m:=2) hS rfl rfl ?_;intro r15 w hS
    obtain ⟨t21,ht21,h⟩:=bnd h
    refine wk_k_LikeReals H hS (Ent.sl mp7) (Ent.sl mp0) ht21 ?_;rintro w hS
    refine ⟨_,rfl,?_⟩
    refine cond_s h ?_ ?_<;>intro hc h
    ·
     obtain ⟨t22,ht22,h⟩:=bnd h
     obtain rfl:=lenF ht22 ((Ent.sl mp5).now (fun _ h=>h) hS)
     refine cond_s h ?_ ?_<;>intro hc h
     ·
      obtain ⟨t23,ht23,h⟩:=bnd h
      obtain ⟨z16,rfl,q17x,jn,q17r⟩:=atF ht23
      refine idx_s ((Ent.sl mp5).now (fun _ h=>h) hS) q17x jn q17r ?_;intro b18 hb18
      refine ⟨_,rd_get ((Ent.sl mp5).now (fun _ h=>h) hS) hb18 q17x,?_⟩
      obtain ⟨t24,ht24,h⟩:=bnd h
      obtain rfl:=fgt_s ht24
      refine cond_s h ?_ ?_<;>intro hc h
      ·
       obtain ⟨t25,ht25,h⟩:=bnd h
       obtain ⟨z19,rfl,q20x,gr,q20r⟩:=atF ht25
       refine idx_s ((Ent.sl mp5).now (fun _ h=>h) hS) q20x gr q20r ?_;intro b21 hb21
       refine ⟨_,rd_get ((Ent.sl mp5).now (fun _ h=>h) hS) hb21 q20x,?_⟩
       obtain ⟨t26,ht26,h⟩:=bnd h
       obtain rfl:=flt_s ht26
       refine cond_s h ?_ ?_<;>intro hc h
       ·
        refine cond_s h ?_ ?_<;>intro hc h
        ·
         obtain ⟨t27,ht27,h⟩:=bnd h
         obtain rfl:(List.map nf ([13830554455654793216]:List Nat))=t27:=some_inj ht27
         refine lit_s (ks:=[13830554455654793216]) (enc:=(Value.float .f64)) (m:=1) hS rfl rfl ?_;intro r22 w hS
         obtain ⟨t28,ht28,h⟩:=bnd h
         refine wk_k_LikeReals H hS (Ent.sl mp2) (Ent.sl mp0) ht28 ?_;rintro w hS
         refine ⟨_,rfl,?_⟩
         cases some_inj h
         exact hK _ (hS.pick (A:=[_,_,_,_,_,_,_,_,_,_,_,_,_,_,_,_]) [] rfl)
        cases some_inj h
        exact hK _ (hS.pick (A:=[_,_,_,_,_,_,_,_,_,_,_,_,_,_,_]) [] rfl)
       cases some_inj h
       exact hK _ (hS.pick (A:=[_,_,_,_,_,_,_,_,_,_,_,_,_,_,_]) [] rfl)
      cases some_inj h
      exact hK _ (hS.pick (A:=[_,_,_,_,_,_,_,_,_,_,_,_,_,_,_]) [] rfl)
     cases some_inj h
     exact hK _ (hS.pick (A:=[_,_,_,_,_,_,_,_,_,_,_,_,_,_,_]) [] rfl)
    cases some_inj h
    exact hK _ (hS.pick (A:=[_,_,_,_,_,_,_,_,_,_,_,_,_,_,_]) [] rfl)
   cases some_inj h
   exact hK _ (hS.pick (A:=[_,_,_,_,_,_,_,_,_,_,_,_,_,_]) [] rfl)
  cases some_inj h
  exact hK _ (hS.pick (A:=[_,_,_,_,_,_,_,_,_,_,_,_,_,_]) [] rfl)
 cases some_inj h
 exact hK _ (hS.pick (A:=[_,_,_,_,_,_,_,_,_,_,_,_,_,_]) [] rfl)
theorem wk_w14_great {qa qb qc qd qe qs u0} (hS:Ho w0 w L) (qq:EF L qs qc qd qe) (h:T_w14_great qa qb (List.map nf qs)=some u0) (hK:∀ w1,Ho w0 w1 L→K (.bool u0) w1):CallsX P N.f_w14_great #[.agg #[.int .i64 qa,.int .i64 qb,.slice qc qd qe]] w K:=by
 refine H.w14_great qa qb qc qd qe w _ ?_
 unfold S_w14_great
 unfold T_w14_great at h
 try dsimp only
 refine newM_s hS ?_;intro r1 w hS
 refine ⟨_,_,_,hS.cel mp0 rfl,?_⟩
 obtain ⟨t1,ht1,h⟩:=bnd h
 obtain rfl:=lenF ht1 ((qq.mono tl1).now (fun _ h=>h) hS)
 cases some_inj h
 exact hK _ (hS.pick (A:=[_]) [] rfl)
theorem wk_k_Pick {q0 q1 u0} (hS:Ho w0 w L)  (h:T_k_Pick q0 q1=some u0) (hK:∀ w1,Ho w0 w1 L→K (.int .i64 u0) w1):CallsX P N.f_k_Pick #[.int .i64 q0,.int .i64 q1] w K:=by
 refine H.k_Pick q0 q1 w _ ?_
 unfold S_k_Pick
 unfold T_k_Pick at h
 try dsimp only
 refine cond_s h ?_ ?_<;>intro hc h
 ·
  cases some_inj h
  exact hK _ hS
 obtain ⟨t2,ht2,h⟩:=bnd h
 refine ⟨nz_s ht2,?_⟩
 obtain ⟨o1,h1,c1⟩:=bnd h
 refine cutM_i (fun s w=>∃ (t1:Int),t1=o1∧s=(t1,())∧Ho w0 w L) (fun J1 hJ1=>?_) ?_
 ·
  have h:=h1
  clear h1
  refine cond_s h ?_ ?_<;>intro hc h
  ·
   exact hJ1 _ _ ⟨_,some_inj h,rfl,hS⟩
  exact hJ1 _ _ ⟨_,some_inj h,rfl,hS⟩
 clear h1 hS
 rintro s w ⟨t1,rfl,rfl,hS⟩
 have h:=c1
 clear c1
 try dsimp only
 cases some_inj h
 exact hK _ hS
theorem wk_w14_left {qa qb qc qd qe qs vv vw qz ve yo vx vf vg yp vy vh vj yq vz vk vm yr q1 qk qp vr u0 u1} (hS:Ho w0 w L) (qq:EF L qs qc qd qe) (yi:EF L yo vw qz ve) (yj:EF L yp vx vf vg) (yv:EF L yq vy vh vj) (yd:EF L yr vz vk vm) (qy:EF L vr q1 qk qp) (hG:Ent L (tab64 N.g_1)) (h:T_w14_left qa qb (List.map nf qs) vv (List.map nf yo) (List.map nf yp) (List.map nf yq) (List.map nf yr) (List.map nf vr)=some (u0,u1)) (hK:∀ (z0:Nat) (w1:World),nf z0=u0→Ho w0 w1 L→K (.tuple #[.float .f64 z0,.bool u1]) w1):CallsX P N.f_w14_left #[.agg #[.int .i64 qa,.int .i64 qb,.slice qc qd qe,.int .i64 vv,.slice vw qz ve,.slice vx vf vg,.slice vy vh vj,.slice vz vk vm],.slice q1 qk qp] w K:=by
 refine H.w14_left qa qb qc qd qe vv vw qz ve vx vf vg vy vh vj vz vk vm q1 qk qp w _ ?_
 unfold S_w14_left
 unfold T_w14_left at h
 try dsimp only
 refine newM_s hS ?_;intro r1 w hS
 refine ⟨_,hS.cel mp0 rfl,_,hS.cel mp0 rfl,_,_,_,hS.cel mp0 rfl,_,_,_,hS.cel mp0 rfl,?_⟩
 obtain ⟨⟨t1,t2⟩,ho1,h⟩:=bnd h
 refine wk_refine_Left H hS (qq.mono tl1) (qy.mono tl1) (yd.mono tl1) (hG.mono tl1) ho1 ?_;clear hS ho1;rintro a2 m2 c2 yh w rfl hS
 refine ⟨_,_,_,_,rfl,?_⟩
 obtain ⟨t3,ht3,h⟩:=bnd h
 refine wk_vector_Norm H hS (Ent.sl mp0) ht3 ?_;rintro z3 w rfl hS
 refine ⟨_,rfl,?_⟩
 cases some_inj h
 exact hK _ _ rfl (hS.pick (A:=[_,_]) [] rfl)
theorem wk_k_SameFloat {q0 q1 u0} (hS:Ho w0 w L)  (hx:T_k_SameFloat (nf q0) (nf q1)=some u0) (hK:∀ w1,Ho w0 w1 L→K (.bool u0) w1):CallsX P N.f_k_SameFloat #[.float .f64 q0,.float .f64 q1] w K:=by
 unfold T_k_SameFloat at hx
 have hx:=some_inj hx
 subst hx
 refine (sameFloat_c H q0 q1 w).mono ?_
 rintro _ w1 ⟨rfl,h1⟩
 exact hK _ (hS.next h1)
theorem wk_k_SameReals {q0 qh qn vu q1 qk qp vr u0} (hS:Ho w0 w L) (qu:EF L vu q0 qh qn) (qy:EF L vr q1 qk qp) (h:T_k_SameReals (List.map nf vu) (List.map nf vr)=some u0) (hK:∀ w1,Ho w0 w1 L→K (.bool u0) w1):CallsX P N.f_k_SameReals #[.slice q0 qh qn,.slice q1 qk qp] w K:=by
 refine H.k_SameReals q0 qh qn q1 qk qp w _ ?_
 unfold S_k_SameReals
 unfold T_k_SameReals at h
 try dsimp only
 obtain ⟨t1,ht1,h⟩:=bnd h
 obtain rfl:=lenF ht1 (qu.now (fun _ h=>h) hS)
 obtain ⟨t2,ht2,h⟩:=bnd h
 obtain rfl:=lenF ht2 (qy.now (fun _ h=>h) hS)
 refine cond_s h ?_ ?_<;>intro hc h
 ·
  cases some_inj h
  exact hK _ hS
 obtain ⟨o1,h1,c1⟩:=bnd h
 refine cutM_i (fun s w =>  .inl ()=o1∧s=(())∧Ho w0 w L) (fun J1 hJ1=>?_) ?_
 ·
  have h:=h1
  clear h1
  refine iter_sim (fun s w t=>∃ (t3:Int),t3=t∧s=(t3,())∧Ho w0 w L) ?_ h ⟨_,rfl,rfl,hS⟩
  clear h hS
  rintro s w t X q ⟨t3,rfl,rfl,hS⟩ h hX hO
  unfold T_k_SameReals_b2 at h
  try dsimp only
  obtain ⟨t4,ht4,h⟩:=bnd h
  obtain rfl:=lenF ht4 (qu.now (fun _ h=>h) hS)
  refine cond_s h ?_ ?_<;>intro hc h
  ·
   obtain ⟨t5,ht5,h⟩:=bnd h
   obtain ⟨z2,rfl,q3x,vt,q3r⟩:=atF ht5
   refine idx_s (qu.now (fun _ h=>h) hS) q3x vt q3r ?_;intro b4 hb4
   refine ⟨_,rd_get (qu.now (fun _ h=>h) hS) hb4 q3x,?_⟩
   obtain ⟨t6,ht6,h⟩:=bnd h
   obtain ⟨z5,rfl,q6x,ym,q6r⟩:=atF ht6
   refine idx_s (qy.now (fun _ h=>h) hS) q6x ym q6r ?_;intro b7 hb7
   refine ⟨_,rd_get (qy.now (fun _ h=>h) hS) hb7 q6x,?_⟩
   refine drM_s hS ?_;intro w hS
   obtain ⟨t7,ht7,h⟩:=bnd h
   refine wk_k_SameFloat H hS  ht7 ?_;rintro w hS
   refine ⟨_,rfl,?_⟩
   refine drM_s hS ?_;intro w hS
   refine cond_s h ?_ ?_<;>intro hc h
   ·
    obtain rfl:=some_inj h
    have h:=congrArg some (hO _ rfl)
    obtain rfl:=some_inj h
    have h:=c1
    cases some_inj h
    exact hK _ hS
   obtain rfl:=some_inj h
   exact hX _ rfl _ _ ⟨_,rfl,rfl,hS⟩
  obtain rfl:=some_inj h
  have h:=congrArg some (hO _ rfl)
  exact hJ1 _ _ ⟨some_inj h,rfl,hS⟩
 clear h1 hS
 rintro s w ⟨rfl,rfl,hS⟩
 have h:=c1
 clear c1
 try dsimp only
 cases some_inj h
 exact hK _ hS
theorem wk_w14_RefineNever {qa qb qc qd qe qs vv vw qz ve yo vx vf vg yp vy vh vj yq vz vk vm yr q1 u0} (hS:Ho w0 w L) (qq:EF L qs qc qd qe) (yi:EF L yo vw qz ve) (yj:EF L yp vx vf vg) (yv:EF L yq vy vh vj) (yd:EF L yr vz vk vm) (hG:Ent L (tab64 N.g_1)) (h:T_w14_RefineNever qa qb (List.map nf qs) vv (List.map nf yo) (List.map nf yp) (List.map nf yq) (List.map nf yr) q1=some u0) (hK:∀ w1,Ho w0 w1 L→K (.bool u0) w1):CallsX P N.f_w14_RefineNever #[.agg #[.int .i64 qa,.int .i64 qb,.slice qc qd qe,.int .i64 vv,.slice vw qz ve,.slice vx vf vg,.slice vy vh vj,.slice vz vk vm],.int .i64 q1] w K:=by
 refine H.w14_RefineNever qa qb qc qd qe vv vw qz ve vx vf vg vy vh vj vz vk vm q1 w _ ?_
 unfold S_w14_RefineNever
 unfold T_w14_RefineNever at h
 try dsimp only
 refine newM_s hS ?_;intro r1 w hS
 obtain ⟨t1,ht1,h⟩:=bnd h
 refine wk_w14_awake H hS (hG.mono tl1) ht1 ?_;rintro w hS
 refine ⟨_,rfl,?_⟩
 refine cond_s h ?_ ?_<;>intro hc h
 ·
  cases some_inj h
  exact hK _ (hS.pick (A:=[_]) [] rfl)
 obtain ⟨o2,h2,c2⟩:=bnd h
 refine cutM_i (fun s w=>∃ (t2:Bool),t2=o2∧s=(t2,())∧Ho w0 w ((cl r1 [.int .i64 qa,.int .i64 qb,.slice qc qd qe,.int .i64 vv,.slice vw qz ve,.slice vx vf vg,.slice vy vh vj,.slice vz vk vm] N.t_w14_Case)::L)) (fun J2 hJ2=>?_) ?_
 ·
  have h:=h2
  clear h2
  refine ⟨_,hS.cel mp0 rfl,_,hS.cel mp0 rfl,_,_,_,hS.cel mp0 rfl,?_⟩
  obtain ⟨t3,ht3,h⟩:=bnd h
  refine wk_w14_great H hS (qq.mono tl1) ht3 ?_;rintro w hS
  refine ⟨_,rfl,?_⟩
  refine cond_s h ?_ ?_<;>intro hc h
  ·
   refine ⟨_,_,_,hS.cel mp0 rfl,?_⟩
   obtain ⟨t4,ht4,h⟩:=bnd h
   obtain rfl:=lenF ht4 ((yd.mono tl1).now (fun _ h=>h) hS)
   exact hJ2 _ _ ⟨_,some_inj h,rfl,hS⟩
  exact hJ2 _ _ ⟨_,some_inj h,rfl,hS⟩
 clear h2 hS
 rintro s w ⟨t2,rfl,rfl,hS⟩
 have h:=c2
 clear c2
 try dsimp only
 refine cond_s h ?_ ?_<;>intro hc h
 ·
  cases some_inj h
  exact hK _ (hS.pick (A:=[_]) [] rfl)
 obtain ⟨t5,ht5,h⟩:=bnd h
 refine wk_k_Pick H hS  ht5 ?_;rintro w hS
 refine ⟨_,rfl,?_⟩
 refine ⟨_,hS.cel mp0 rfl,_,hS.cel mp0 rfl,_,_,_,hS.cel mp0 rfl,_,hS.cel mp0 rfl,_,_,_,hS.cel mp0 rfl,_,_,_,hS.cel mp0 rfl,_,_,_,hS.cel mp0 rfl,?_⟩
 obtain ⟨⟨t6,t7,t8⟩,ho6,h⟩:=bnd h
 refine wk_refine_Until H hS (qq.mono tl1) (yi.mono tl1) (yj.mono tl1) (yd.mono tl1) (hG.mono tl1) ho6 ?_;clear hS ho6;rintro a3 m3 c3 yt w rfl hS
 refine ⟨_,_,_,_,_,rfl,?_⟩
 refine ⟨_,hS.cel mp1 rfl,_,hS.cel mp1 rfl,_,_,_,hS.cel mp1 rfl,_,hS.cel mp1 rfl,_,_,_,hS.cel mp1 rfl,_,_,_,hS.cel mp1 rfl,_,_,_,hS.cel mp1 rfl,?_⟩
 obtain ⟨⟨t9,t10,t11⟩,ho9,h⟩:=bnd h
 refine wk_refine_Until H hS (qq.mono tl2) (yi.mono tl2) (yj.mono tl2) (yd.mono tl2) (hG.mono tl2) ho9 ?_;clear hS ho9;rintro a4 m4 c4 jv w rfl hS
 refine ⟨_,_,_,_,_,rfl,?_⟩
 obtain ⟨o5,h5,c5⟩:=bnd h
 refine cutM_i (fun s w=>∃ (t12:Bool),t12=o5∧s=(t12,())∧Ho w0 w ((sl a4 m4 c4 (List.map (Value.float .f64) jv) N.t_float64)::(sl a3 m3 c3 (List.map (Value.float .f64) yt) N.t_float64)::(cl r1 [.int .i64 qa,.int .i64 qb,.slice qc qd qe,.int .i64 vv,.slice vw qz ve,.slice vx vf vg,.slice vy vh vj,.slice vz vk vm] N.t_w14_Case)::L)) (fun J5 hJ5=>?_) ?_
 ·
  have h:=h5
  clear h5
  refine cond_s h ?_ ?_<;>intro hc h
  ·
   exact hJ5 _ _ ⟨_,some_inj h,rfl,hS⟩
  exact hJ5 _ _ ⟨_,some_inj h,rfl,hS⟩
 clear h5 hS
 rintro s w ⟨t12,rfl,rfl,hS⟩
 have h:=c5
 clear c5
 try dsimp only
 refine cond_s h ?_ ?_<;>intro hc h
 ·
  refine cond_s h ?_ ?_<;>intro hc h
  ·
   refine cond_s h ?_ ?_<;>intro hc h
   ·
    refine cond_s h ?_ ?_<;>intro hc h
    ·
     obtain ⟨t13,ht13,h⟩:=bnd h
     obtain rfl:=lenF ht13 ((Ent.sl mp1).now (fun _ h=>h) hS)
     obtain ⟨t14,ht14,h⟩:=bnd h
     obtain rfl:=lenF ht14 ((Ent.sl mp0).now (fun _ h=>h) hS)
     cases some_inj h
     exact hK _ (hS.pick (A:=[_,_,_]) [] rfl)
    cases some_inj h
    exact hK _ (hS.pick (A:=[_,_,_]) [] rfl)
   cases some_inj h
   exact hK _ (hS.pick (A:=[_,_,_]) [] rfl)
  cases some_inj h
  exact hK _ (hS.pick (A:=[_,_,_]) [] rfl)
 refine ⟨_,hS.cel mp2 rfl,_,_,_,hS.cel mp2 rfl,_,_,_,hS.cel mp2 rfl,_,_,_,hS.cel mp2 rfl,?_⟩
 obtain ⟨⟨t15,t16⟩,ho15,h⟩:=bnd h
 refine wk_solve_Solve H hS (yi.mono tl3) (yj.mono tl3) (yd.mono tl3) ho15 ?_;clear hS ho15;rintro a6 m6 c6 jf w rfl hS
 refine ⟨_,_,_,_,rfl,?_⟩
 refine ⟨_,hS.cel mp3 rfl,_,hS.cel mp3 rfl,_,_,_,hS.cel mp3 rfl,_,hS.cel mp3 rfl,_,_,_,hS.cel mp3 rfl,_,_,_,hS.cel mp3 rfl,_,_,_,hS.cel mp3 rfl,_,_,_,hS.cel mp3 rfl,?_⟩
 obtain ⟨⟨t17,t18⟩,ho17,h⟩:=bnd h
 refine wk_w14_left H hS (qq.mono tl4) (yi.mono tl4) (yj.mono tl4) (yv.mono tl4) (yd.mono tl4) (Ent.sl mp0) (hG.mono tl4) ho17 ?_;clear hS ho17;rintro z7 w rfl hS
 refine ⟨_,_,rfl,?_⟩
 refine ⟨_,hS.cel mp3 rfl,_,hS.cel mp3 rfl,_,_,_,hS.cel mp3 rfl,_,hS.cel mp3 rfl,_,_,_,hS.cel mp3 rfl,_,_,_,hS.cel mp3 rfl,_,_,_,hS.cel mp3 rfl,_,_,_,hS.cel mp3 rfl,?_⟩
 obtain ⟨⟨t19,t20⟩,ho19,h⟩:=bnd h
 refine wk_w14_left H hS (qq.mono tl4) (yi.mono tl4) (yj.mono tl4) (yv.mono tl4) (yd.mono tl4) (Ent.sl mp2) (hG.mono tl4) ho19 ?_;clear hS ho19;rintro z8 w rfl hS
 refine ⟨_,_,rfl,?_⟩
 refine ⟨_,hS.cel mp3 rfl,_,hS.cel mp3 rfl,_,_,_,hS.cel mp3 rfl,_,hS.cel mp3 rfl,_,_,_,hS.cel mp3 rfl,_,_,_,hS.cel mp3 rfl,_,_,_,hS.cel mp3 rfl,_,_,_,hS.cel mp3 rfl,?_⟩
 obtain ⟨⟨t21,t22⟩,ho21,h⟩:=bnd h
 refine wk_w14_left H hS (qq.mono tl4) (yi.mono tl4) (yj.mono tl4) (yv.mono tl4) (yd.mono tl4) (Ent.sl mp1) (hG.mono tl4) ho21 ?_;clear hS ho21;rintro z9 w rfl hS
 refine ⟨_,_,rfl,?_⟩
 obtain ⟨o10,h10,c10⟩:=bnd h
 refine cutM_i (fun s w=>∃ (t23:Bool),t23=o10∧s=(t23,())∧Ho w0 w ((sl a6 m6 c6 (List.map (Value.float .f64) jf) N.t_float64)::(sl a4 m4 c4 (List.map (Value.float .f64) jv) N.t_float64)::(sl a3 m3 c3 (List.map (Value.float .f64) yt) N.t_float64)::L)) (fun J10 hJ10=>?_) ?_
 ·
  have h:=h10
  clear h10
  refine cond_s h ?_ ?_<;>intro hc h
  ·
   refine cond_s h ?_ ?_<;>intro hc h
   ·
    refine cond_s h ?_ ?_<;>intro hc h
    ·
     refine cond_s h ?_ ?_<;>intro hc h
     ·
      refine cond_s h ?_ ?_<;>intro hc h
      ·
       refine cond_s h ?_ ?_<;>intro hc h
       ·
        refine cond_s h ?_ ?_<;>intro hc h
        ·
         refine cond_s h ?_ ?_<;>intro hc h
         ·
          obtain ⟨t24,ht24,h⟩:=bnd h
          obtain rfl:=fgt_s ht24
          refine cond_s h ?_ ?_<;>intro hc h
          ·
           obtain ⟨t25,ht25,h⟩:=bnd h
           obtain rfl:=fgt_s ht25
           obtain rfl:=some_inj h
           exact hJ10 _ _ ⟨_,rfl,rfl,(hS.pick (A:=[_,_,_,_]) [0,0,0] rfl)⟩
          obtain rfl:=some_inj h
          exact hJ10 _ _ ⟨_,rfl,rfl,(hS.pick (A:=[_,_,_,_]) [0,0,0] rfl)⟩
         obtain rfl:=some_inj h
         exact hJ10 _ _ ⟨_,rfl,rfl,(hS.pick (A:=[_,_,_,_]) [0,0,0] rfl)⟩
        obtain rfl:=some_inj h
        exact hJ10 _ _ ⟨_,rfl,rfl,(hS.pick (A:=[_,_,_,_]) [0,0,0] rfl)⟩
       obtain rfl:=some_inj h
       exact hJ10 _ _ ⟨_,rfl,rfl,(hS.pick (A:=[_,_,_,_]) [0,0,0] rfl)⟩
      obtain rfl:=some_inj h
      exact hJ10 _ _ ⟨_,rfl,rfl,(hS.pick (A:=[_,_,_,_]) [0,0,0] rfl)⟩
     obtain rfl:=some_inj h
     exact hJ10 _ _ ⟨_,rfl,rfl,(hS.pick (A:=[_,_,_,_]) [0,0,0] rfl)⟩
    obtain rfl:=some_inj h
    exact hJ10 _ _ ⟨_,rfl,rfl,(hS.pick (A:=[_,_,_,_]) [0,0,0] rfl)⟩
   obtain rfl:=some_inj h
   exact hJ10 _ _ ⟨_,rfl,rfl,(hS.pick (A:=[_,_,_,_]) [0,0,0] rfl)⟩
  obtain rfl:=some_inj h
  exact hJ10 _ _ ⟨_,rfl,rfl,(hS.pick (A:=[_,_,_,_]) [0,0,0] rfl)⟩
 clear h10 hS
 rintro s w ⟨t23,rfl,rfl,hS⟩
 have h:=c10
 clear c10
 try dsimp only
 refine cond_s h ?_ ?_<;>intro hc h
 ·
  cases some_inj h
  exact hK _ (hS.pick (A:=[_,_,_]) [] rfl)
 refine cond_s h ?_ ?_<;>intro hc h
 ·
  obtain ⟨t26,ht26,h⟩:=bnd h
  refine wk_k_SameReals H hS (Ent.sl mp0) (Ent.sl mp2) ht26 ?_;rintro w hS
  refine ⟨_,rfl,?_⟩
  refine cond_s h ?_ ?_<;>intro hc h
  ·
   refine cond_s h ?_ ?_<;>intro hc h
   ·
    obtain ⟨t27,ht27,h⟩:=bnd h
    obtain rfl:=flt_s ht27
    refine cond_s h ?_ ?_<;>intro hc h
    ·
     cases some_inj h
     exact hK _ (hS.pick (A:=[_,_,_]) [] rfl)
    refine cond_s h ?_ ?_<;>intro hc h
    ·
     obtain ⟨t28,ht28,h⟩:=bnd h
     refine wk_k_SameReals H hS (Ent.sl mp2) (Ent.sl mp1) ht28 ?_;rintro w hS
     refine ⟨_,rfl,?_⟩
     cases some_inj h
     exact hK _ (hS.pick (A:=[_,_,_]) [] rfl)
    refine cond_s h ?_ ?_<;>intro hc h
    ·
     obtain ⟨t29,ht29,h⟩:=bnd h
     obtain rfl:=flt_s ht29
     cases some_inj h
     exact hK _ (hS.pick (A:=[_,_,_]) [] rfl)
    cases some_inj h
    exact hK _ (hS.pick (A:=[_,_,_]) [] rfl)
   refine cond_s h ?_ ?_<;>intro hc h
   ·
    obtain ⟨t30,ht30,h⟩:=bnd h
    refine wk_k_SameReals H hS (Ent.sl mp2) (Ent.sl mp1) ht30 ?_;rintro w hS
    refine ⟨_,rfl,?_⟩
    cases some_inj h
    exact hK _ (hS.pick (A:=[_,_,_]) [] rfl)
   refine cond_s h ?_ ?_<;>intro hc h
   ·
    obtain ⟨t31,ht31,h⟩:=bnd h
    obtain rfl:=flt_s ht31
    cases some_inj h
    exact hK _ (hS.pick (A:=[_,_,_]) [] rfl)
   cases some_inj h
   exact hK _ (hS.pick (A:=[_,_,_]) [] rfl)
  cases some_inj h
  exact hK _ (hS.pick (A:=[_,_,_]) [] rfl)
 refine cond_s h ?_ ?_<;>intro hc h
 ·
  obtain ⟨t32,ht32,h⟩:=bnd h
  obtain rfl:=flt_s ht32
  refine cond_s h ?_ ?_<;>intro hc h
  ·
   cases some_inj h
   exact hK _ (hS.pick (A:=[_,_,_]) [] rfl)
  refine cond_s h ?_ ?_<;>intro hc h
  ·
   obtain ⟨t33,ht33,h⟩:=bnd h
   refine wk_k_SameReals H hS (Ent.sl mp2) (Ent.sl mp1) ht33 ?_;rintro w hS
   refine ⟨_,rfl,?_⟩
   cases some_inj h
   exact hK _ (hS.pick (A:=[_,_,_]) [] rfl)
  refine cond_s h ?_ ?_<;>intro hc h
  ·
   obtain ⟨t34,ht34,h⟩:=bnd h
   obtain rfl:=flt_s ht34
   cases some_inj h
   exact hK _ (hS.pick (A:=[_,_,_]) [] rfl)
  cases some_inj h
  exact hK _ (hS.pick (A:=[_,_,_]) [] rfl)
 refine cond_s h ?_ ?_<;>intro hc h
 ·
  obtain ⟨t35,ht35,h⟩:=bnd h
  refine wk_k_SameReals H hS (Ent.sl mp2) (Ent.sl mp1) ht35 ?_;rintro w hS
  refine ⟨_,rfl,?_⟩
  cases some_inj h
  exact hK _ (hS.pick (A:=[_,_,_]) [] rfl)
 refine cond_s h ?_ ?_<;>intro hc h
 ·
  obtain ⟨t36,ht36,h⟩:=bnd h
  obtain rfl:=flt_s ht36
  cases some_inj h
  exact hK _ (hS.pick (A:=[_,_,_]) [] rfl)
 cases some_inj h
 exact hK _ (hS.pick (A:=[_,_,_]) [] rfl)
end Go.Eng
