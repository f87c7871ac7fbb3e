/-
 Each function comes to what its function of plain Lean says, printed by a program of the session. No condition.
-/
import Derived.Test.YtgbilchfljlbeaaGreatDoorWk1
set_option linter.all false
set_option maxRecDepth 100000
set_option maxHeartbeats 4000000
namespace Go.Eng
open Go
open Go.IntKind (i64 u64 u32 u8)
variable {N:Nums} {P:Program} (H:AllOk N P) {w0 w:World} {L:List It} {K:KV}
include H
theorem wk_vector_fit {q0 qh qn vo q1 qo qu vm u0} (hS:Ho w0 w L) (qw:EF L vo q0 qh qn) (qz:EF L vm q1 qo qu) (h:T_vector_fit (List.map nf vo) (List.map nf vm)=some u0) (hK:∀ w1,Ho w0 w1 L→K (.int .i64 u0) w1):CallsX P N.f_vector_fit #[.slice q0 qh qn,.slice q1 qo qu] w K:=by
 refine H.vector_fit q0 qh qn q1 qo qu w _ ?_
 unfold S_vector_fit
 unfold T_vector_fit at h
 try dsimp only
 obtain ⟨t1,ht1,h⟩:=bnd h
 obtain rfl:=lenF ht1 (qw.now (fun _ h=>h) hS)
 obtain ⟨t2,ht2,h⟩:=bnd h
 obtain rfl:=lenF ht2 (qz.now (fun _ h=>h) hS)
 refine cond_s h ?_ ?_<;>intro hc h
 ·
  cases some_inj h
  exact hK _ hS
 obtain ⟨t3,ht3,h⟩:=bnd h
 obtain rfl:=lenF ht3 (qw.now (fun _ h=>h) hS)
 refine cond_s h ?_ ?_<;>intro hc h
 ·
  cases some_inj h
  exact hK _ hS
 cases some_inj h
 exact hK _ hS
theorem wk_vector_each {q0 qh qn vo q1 qo qu vm} {q2:Value} {f2:Nat→Nat→Option Nat} {u0 u1} (hS:Ho w0 w L) (qw:EF L vo q0 qh qn) (qz:EF L vm q1 qo qu) (hf2:∀ (v0:Nat) (v1:Nat) (w:World) (L1:List It) (r1:Nat) (K:KV),(∀ e,e∈L→e∈L1)→f2 (nf v0) (nf v1)=some r1→Ho w0 w L1→(∀ (z:Nat) (w1:World),nf z=r1→Ho w0 w1 L1→K (.float .f64 z) w1)→fnM q2 fun g gp gq=>CallsX P g (gp.toList++(([.float .f64 v0,.float .f64 v1]:List Value)++gq.toList)).toArray w K) (h:T_vector_each (List.map nf vo) (List.map nf vm) f2=some (u0,u1)) (hK:∀ (a0:OA) (n0 c0:Nat) (rws0:List Nat) (w1:World),List.map nf rws0=u0→Ho w0 w1 ((sl a0 n0 c0 (List.map (Value.float .f64) rws0) N.t_float64)::L)→K (.tuple #[.slice a0 n0 c0,.int .i64 u1]) w1):CallsX P N.f_vector_each #[.slice q0 qh qn,.slice q1 qo qu,q2] w K:=by
 refine H.vector_each q0 qh qn q1 qo qu q2 w _ ?_
 unfold S_vector_each
 unfold T_vector_each at h
 try dsimp only
 obtain ⟨t1,ht1,h⟩:=bnd h
 refine wk_vector_fit H hS qw qz ht1 ?_;rintro w hS
 refine ⟨_,rfl,?_⟩
 refine cond_s h ?_ ?_<;>intro hc h
 ·
  replace hS:=hS.none (α:=Nat) (enc:=(Value.float .f64)) (t:=N.t_float64)
  cases some_inj h
  exact hK _ _ _ _ _ rfl hS
 obtain ⟨t2,ht2,h⟩:=bnd h
 obtain rfl:=lenF ht2 (qw.now (fun _ h=>h) hS)
 obtain ⟨t3,ht3,h⟩:=bnd h
 obtain ⟨rfl,kt3⟩:=mkF ht3
 refine mk_s (enc:=(Value.float .f64)) hS kt3 rfl ?_;clear hS kt3;intro r1 w hS
 obtain ⟨t4,ht4,h⟩:=bnd h
 obtain rfl:=lenF ht4 ((qw.mono tl1).now (fun _ h=>h) hS)
 obtain ⟨o3,h3,c3⟩:=bnd h
 refine cutM_i (fun s w=>∃ (vz:List Nat),(List.map nf vz)=o3∧s=(())∧Ho w0 w ((sl (some ⟨r1,0,none⟩) (((qh:Int)).toNat) (((qh:Int)).toNat) (List.map (Value.float .f64) vz) N.t_float64)::L)) (fun J3 hJ3=>?_) ?_
 ·
  have h:=h3
  clear h3
  refine iter_sim (fun s w t=>∃ (t6:Int) (jd:List Nat),(t6,(List.map nf jd))=t∧s=(t6,())∧Ho w0 w ((sl (some ⟨r1,0,none⟩) (((qh:Int)).toNat) (((qh:Int)).toNat) (List.map (Value.float .f64) jd) N.t_float64)::L)) ?_ h ⟨_,_,rfl,rfl,hS⟩
  clear h hS
  rintro s w t X q ⟨t6,jd,rfl,rfl,hS⟩ h hX hO
  unfold T_vector_each_b2 at h
  try dsimp only
  refine cond_s h ?_ ?_<;>intro hc h
  ·
   obtain ⟨t8,ht8,h⟩:=bnd h
   obtain ⟨z5,rfl,q6x,yi,q6r⟩:=atF ht8
   refine idx_s ((qw.mono tl1).now (fun _ h=>h) hS) q6x yi q6r ?_;intro b7 hb7
   refine ⟨_,rd_get ((qw.mono tl1).now (fun _ h=>h) hS) hb7 q6x,?_⟩
   obtain ⟨t9,ht9,h⟩:=bnd h
   obtain ⟨z8,rfl,q9x,gh,q9r⟩:=atF ht9
   refine idx_s ((qz.mono tl1).now (fun _ h=>h) hS) q9x gh q9r ?_;intro b10 hb10
   refine ⟨_,rd_get ((qz.mono tl1).now (fun _ h=>h) hS) hb10 q9x,?_⟩
   refine drM_s hS ?_;intro w hS
   obtain ⟨t10,ht10,h⟩:=bnd h
   refine hf2 _ _ _ _ _ _ tl1 ht10 hS ?_;rintro z11 w rfl hS
   refine ⟨_,rfl,?_⟩
   obtain ⟨t11,ht11,h⟩:=bnd h
   obtain ⟨z12,rfl,q13x,yw,q13r⟩:=atF ht11
   refine idy_s ((Ent.sl mp0).now (fun _ h=>h) hS) q13x yw q13r ?_
   refine drM_s hS ?_;intro w hS
   obtain ⟨t12,ht12,h⟩:=bnd h
   obtain rfl:=setF ht12
   refine sto_s hS rfl q13r ?_;intro w hS
   refine drM_s hS ?_;intro w hS
   obtain rfl:=some_inj h
   exact hX _ rfl _ _ ⟨_,_,rfl,rfl,hS⟩
  obtain rfl:=some_inj h
  have h:=congrArg some (hO _ rfl)
  exact hJ3 _ _ ⟨_,some_inj h,rfl,hS⟩
 clear h3 hS
 rintro s w ⟨vz,rfl,rfl,hS⟩
 have h:=c3
 clear c3
 try dsimp only
 cases some_inj h
 exact hK _ _ _ _ _ rfl hS
theorem wk_vector_Add_1 {q0 q1 u0} (hS:Ho w0 w L)  (h:T_vector_Add_1 (nf q0) (nf q1)=some u0) (hK:∀ (z0:Nat) (w1:World),nf z0=u0→Ho w0 w1 L→K (.float .f64 z0) w1):CallsX P N.f_vector_Add_1 #[.float .f64 q0,.float .f64 q1] w K:=by
 refine H.vector_Add_1 q0 q1 w _ ?_
 unfold S_vector_Add_1
 unfold T_vector_Add_1 at h
 try dsimp only
 obtain ⟨t1,ht1,h⟩:=bnd h
 refine fadd_s ht1 hS ?_;rintro z1 w rfl hS
 cases some_inj h
 exact hK _ _ rfl hS
theorem wk_vector_Add {q0 qh qn vo q1 qo qu vm u0 u1} (hS:Ho w0 w L) (qw:EF L vo q0 qh qn) (qz:EF L vm q1 qo qu) (hx:T_vector_Add (List.map nf vo) (List.map nf vm)=some (u0,u1)) (hK:∀ (a0:OA) (n0 c0:Nat) (rws0:List Nat) (w1:World),List.map nf rws0=u0→Ho w0 w1 ((sl a0 n0 c0 (List.map (Value.float .f64) rws0) N.t_float64)::L)→K (.tuple #[.slice a0 n0 c0,.int .i64 u1]) w1):CallsX P N.f_vector_Add #[.slice q0 qh qn,.slice q1 qo qu] w K:=by
 refine H.vector_Add q0 qh qn q1 qo qu w _ ?_
 unfold S_vector_Add
 unfold T_vector_Add at hx
 have h:=hx
 clear hx
 try dsimp only
 obtain ⟨⟨t1,t2⟩,ho1,h⟩:=bnd h
 refine wk_vector_each H hS qw qz (by intro v0 v1 w L1 r1 K hL hx hS hK;exact wk_vector_Add_1 H hS  hx hK) ho1 ?_;clear hS ho1;rintro a1 m1 c1 vm w rfl hS
 refine ⟨_,_,_,_,rfl,?_⟩
 cases some_inj h
 exact hK _ _ _ _ _ rfl hS
theorem wk_refine_Step {qa qc qe qb qg qq ql qk qi qj vj qr qs qt vf q2 qy vg vz q3 vn yf yu u0 u1} (hS:Ho w0 w L) (qp:EF L qq qe qb qg) (qv:EF L vj qk qi qj) (vh:EF L vf qr qs qt) (ya:EF L vz q2 qy vg) (jl:EF L yu q3 vn yf) (hG:Ent L (tab64 N.g_1)) (h:T_refine_Step qa qc (List.map nf qq) ql (List.map nf vj) (List.map nf vf) (List.map nf vz) (List.map nf yu)=some (u0,u1)) (hK:∀ (a0:OA) (n0 c0:Nat) (rws0:List Nat) (w1:World),List.map nf rws0=u0→Ho w0 w1 ((sl a0 n0 c0 (List.map (Value.float .f64) rws0) N.t_float64)::L)→K (.tuple #[.slice a0 n0 c0,.int .i64 u1]) w1):CallsX P N.f_refine_Step #[.agg #[.int .i64 qa,.int .i64 qc,.slice qe qb qg],.agg #[.int .i64 ql,.slice qk qi qj,.slice qr qs qt],.slice q2 qy vg,.slice q3 vn yf] w K:=by
 refine H.refine_Step qa qc qe qb qg ql qk qi qj qr qs qt q2 qy vg q3 vn yf w _ ?_
 unfold S_refine_Step
 unfold T_refine_Step at h
 try dsimp only
 refine newM_s hS ?_;intro r1 w hS
 refine newM_s hS ?_;intro r2 w hS
 obtain ⟨o3,h3,c3⟩:=bnd h
 refine cutM_i (fun s w=>∃ (t1:Bool),t1=o3∧s=(t1,())∧Ho w0 w ((cl r2 [.int .i64 ql,.slice qk qi qj,.slice qr qs qt] N.t_Factor)::(cl r1 [.int .i64 qa,.int .i64 qc,.slice qe qb qg] N.t_Matrix)::L)) (fun J3 hJ3=>?_) ?_
 ·
  have h:=h3
  clear h3
  refine ⟨_,hS.cel mp1 rfl,_,hS.cel mp1 rfl,_,_,_,hS.cel mp1 rfl,?_⟩
  obtain ⟨t2,ht2,h⟩:=bnd h
  refine wk_refine_fit H hS (qp.mono tl2) (ya.mono tl2) (jl.mono tl2) ht2 ?_;rintro w hS
  refine ⟨_,rfl,?_⟩
  refine cond_s h ?_ ?_<;>intro hc h
  ·
   refine ⟨_,hS.cel mp1 rfl,_,hS.cel mp1 rfl,_,_,_,hS.cel mp1 rfl,_,hS.cel mp0 rfl,_,_,_,hS.cel mp0 rfl,_,_,_,hS.cel mp0 rfl,?_⟩
   obtain ⟨t3,ht3,h⟩:=bnd h
   refine wk_refine_fits H hS (qp.mono tl2) (qv.mono tl2) (vh.mono tl2) ht3 ?_;rintro w hS
   refine ⟨_,rfl,?_⟩
   exact hJ3 _ _ ⟨_,some_inj h,rfl,hS⟩
  exact hJ3 _ _ ⟨_,some_inj h,rfl,hS⟩
 clear h3 hS
 rintro s w ⟨t1,rfl,rfl,hS⟩
 have h:=c3
 clear c3
 try dsimp only
 refine cond_s h ?_ ?_<;>intro hc h
 ·
  replace hS:=hS.none (α:=Nat) (enc:=(Value.float .f64)) (t:=N.t_float64)
  cases some_inj h
  exact hK _ _ _ _ _ rfl (hS.pick (A:=[_,_,_]) [0] rfl)
 refine ⟨_,hS.cel mp1 rfl,_,hS.cel mp1 rfl,_,_,_,hS.cel mp1 rfl,?_⟩
 obtain ⟨⟨t4,t5⟩,ho4,h⟩:=bnd h
 refine wk_refine_Left H hS (qp.mono tl2) (ya.mono tl2) (jl.mono tl2) (hG.mono tl2) ho4 ?_;clear hS ho4;rintro a4 m4 c4 jd w rfl hS
 refine ⟨_,_,_,_,rfl,?_⟩
 refine cond_s h ?_ ?_<;>intro hc h
 ·
  replace hS:=hS.none (α:=Nat) (enc:=(Value.float .f64)) (t:=N.t_float64)
  cases some_inj h
  exact hK _ _ _ _ _ rfl (hS.pick (A:=[_,_,_,_]) [0] rfl)
 refine ⟨_,hS.cel mp1 rfl,_,_,_,hS.cel mp1 rfl,_,_,_,hS.cel mp1 rfl,?_⟩
 obtain ⟨⟨t6,t7⟩,ho6,h⟩:=bnd h
 refine wk_solve_Solve H hS (qv.mono tl3) (vh.mono tl3) (Ent.sl mp0) ho6 ?_;clear hS ho6;rintro a5 m5 c5 jn w rfl hS
 refine ⟨_,_,_,_,rfl,?_⟩
 refine cond_s h ?_ ?_<;>intro hc h
 ·
  replace hS:=hS.none (α:=Nat) (enc:=(Value.float .f64)) (t:=N.t_float64)
  cases some_inj h
  exact hK _ _ _ _ _ rfl (hS.pick (A:=[_,_,_,_,_]) [0] rfl)
 obtain ⟨⟨t8,t9⟩,ho8,h⟩:=bnd h
 refine wk_vector_Add H hS (ya.mono tl4) (Ent.sl mp0) ho8 ?_;clear hS ho8;rintro a6 m6 c6 yk w rfl hS
 refine ⟨_,_,_,_,rfl,?_⟩
 obtain ⟨t10,ht10,h⟩:=bnd h
 obtain rfl:(List.map (List.map nf) ([yk]:List (List Nat)))=t10:=some_inj ht10
 refine lit_s (ks:=([(a6,m6,c6)]:List Hd)) (enc:=hdV) (m:=1) hS rfl rfl ?_;intro r7 w hS
 obtain ⟨t11,ht11,h⟩:=bnd h
 refine wk_refine_finite H hS (Ent.sl mp0) (.cons (Ent.sl mp1) .nil) ht11 ?_;rintro w hS
 refine ⟨_,rfl,?_⟩
 refine cond_s h ?_ ?_<;>intro hc h
 ·
  replace hS:=hS.none (α:=Nat) (enc:=(Value.float .f64)) (t:=N.t_float64)
  cases some_inj h
  exact hK _ _ _ _ _ rfl (hS.pick (A:=[_,_,_,_,_,_,_]) [0] rfl)
 cases some_inj h
 exact hK _ _ _ _ _ rfl (hS.pick (A:=[_,_,_,_,_,_]) [1] rfl)
theorem wk_refine_Until {qa qc qe qb qg qq ql qk qi qj vj qr qs qt vf q2 qy vg vz q3 u0 u1 u2} (hS:Ho w0 w L) (qp:EF L qq qe qb qg) (qv:EF L vj qk qi qj) (vh:EF L vf qr qs qt) (ya:EF L vz q2 qy vg) (hG:Ent L (tab64 N.g_1)) (h:T_refine_Until qa qc (List.map nf qq) ql (List.map nf vj) (List.map nf vf) (List.map nf vz) q3=some (u0,u1,u2)) (hK:∀ (a0:OA) (n0 c0:Nat) (rws0:List Nat) (w1:World),List.map nf rws0=u0→Ho w0 w1 ((sl a0 n0 c0 (List.map (Value.float .f64) rws0) N.t_float64)::L)→K (.tuple #[.slice a0 n0 c0,.int .i64 u1,.int .i64 u2]) w1):CallsX P N.f_refine_Until #[.agg #[.int .i64 qa,.int .i64 qc,.slice qe qb qg],.agg #[.int .i64 ql,.slice qk qi qj,.slice qr qs qt],.slice q2 qy vg,.int .i64 q3] w K:=by
 refine H.refine_Until qa qc qe qb qg ql qk qi qj qr qs qt q2 qy vg q3 w _ ?_
 unfold S_refine_Until
 unfold T_refine_Until at h
 try dsimp only
 refine newM_s hS ?_;intro r1 w hS
 refine newM_s hS ?_;intro r2 w hS
 obtain ⟨o3,h3,c3⟩:=bnd h
 refine cutM_i (fun s w=>∃ (t1:Bool),t1=o3∧s=(t1,())∧Ho w0 w ((cl r2 [.int .i64 ql,.slice qk qi qj,.slice qr qs qt] N.t_Factor)::(cl r1 [.int .i64 qa,.int .i64 qc,.slice qe qb qg] N.t_Matrix)::L)) (fun J3 hJ3=>?_) ?_
 ·
  have h:=h3
  clear h3
  refine cond_s h ?_ ?_<;>intro hc h
  ·
   exact hJ3 _ _ ⟨_,some_inj h,rfl,hS⟩
  exact hJ3 _ _ ⟨_,some_inj h,rfl,hS⟩
 clear h3 hS
 rintro s w ⟨t1,rfl,rfl,hS⟩
 have h:=c3
 clear c3
 try dsimp only
 refine cond_s h ?_ ?_<;>intro hc h
 ·
  replace hS:=hS.none (α:=Nat) (enc:=(Value.float .f64)) (t:=N.t_float64)
  cases some_inj h
  exact hK _ _ _ _ _ rfl (hS.pick (A:=[_,_,_]) [0] rfl)
 obtain ⟨o4,h4,c4⟩:=bnd h
 refine cutM_i (fun s w=>∃ (t2:Bool),t2=o4∧s=(t2,())∧Ho w0 w ((cl r2 [.int .i64 ql,.slice qk qi qj,.slice qr qs qt] N.t_Factor)::(cl r1 [.int .i64 qa,.int .i64 qc,.slice qe qb qg] N.t_Matrix)::L)) (fun J4 hJ4=>?_) ?_
 ·
  have h:=h4
  clear h4
  refine ⟨_,hS.cel mp1 rfl,_,hS.cel mp1 rfl,_,_,_,hS.cel mp1 rfl,_,hS.cel mp0 rfl,_,_,_,hS.cel mp0 rfl,_,_,_,hS.cel mp0 rfl,?_⟩
  obtain ⟨t3,ht3,h⟩:=bnd h
  refine wk_refine_fits H hS (qp.mono tl2) (qv.mono tl2) (vh.mono tl2) ht3 ?_;rintro w hS
  refine ⟨_,rfl,?_⟩
  refine cond_s h ?_ ?_<;>intro hc h
  ·
   obtain ⟨t4,ht4,h⟩:=bnd h
   obtain rfl:=lenF ht4 ((ya.mono tl2).now (fun _ h=>h) hS)
   refine ⟨_,hS.cel mp1 rfl,?_⟩
   exact hJ4 _ _ ⟨_,some_inj h,rfl,hS⟩
  exact hJ4 _ _ ⟨_,some_inj h,rfl,hS⟩
 clear h4 hS
 rintro s w ⟨t2,rfl,rfl,hS⟩
 have h:=c4
 clear c4
 try dsimp only
 refine cond_s h ?_ ?_<;>intro hc h
 ·
  replace hS:=hS.none (α:=Nat) (enc:=(Value.float .f64)) (t:=N.t_float64)
  cases some_inj h
  exact hK _ _ _ _ _ rfl (hS.pick (A:=[_,_,_]) [0] rfl)
 refine ⟨_,_,_,hS.cel mp1 rfl,?_⟩
 obtain ⟨t5,ht5,h⟩:=bnd h
 obtain rfl:(List.map (List.map nf) ([qq,vz]:List (List Nat)))=t5:=some_inj ht5
 refine lit_s (ks:=([(qe,qb,qg),(q2,qy,vg)]:List Hd)) (enc:=hdV) (m:=2) hS rfl rfl ?_;intro r5 w hS
 obtain ⟨t6,ht6,h⟩:=bnd h
 refine wk_refine_finite H hS (Ent.sl mp0) (.cons (qp.mono tl3) (.cons (ya.mono tl3) .nil)) ht6 ?_;rintro w hS
 refine ⟨_,rfl,?_⟩
 refine cond_s h ?_ ?_<;>intro hc h
 ·
  replace hS:=hS.none (α:=Nat) (enc:=(Value.float .f64)) (t:=N.t_float64)
  cases some_inj h
  exact hK _ _ _ _ _ rfl (hS.pick (A:=[_,_,_,_]) [0] rfl)
 refine ⟨_,hS.cel mp1 rfl,_,_,_,hS.cel mp1 rfl,_,_,_,hS.cel mp1 rfl,?_⟩
 obtain ⟨⟨t7,t8⟩,ho7,h⟩:=bnd h
 refine wk_solve_Solve H hS (qv.mono tl3) (vh.mono tl3) (ya.mono tl3) ho7 ?_;clear hS ho7;rintro a6 m6 c6 yk w rfl hS
 refine ⟨_,_,_,_,rfl,?_⟩
 refine cond_s h ?_ ?_<;>intro hc h
 ·
  replace hS:=hS.none (α:=Nat) (enc:=(Value.float .f64)) (t:=N.t_float64)
  cases some_inj h
  exact hK _ _ _ _ _ rfl (hS.pick (A:=[_,_,_,_,_]) [0] rfl)
 obtain ⟨t9,ht9,h⟩:=bnd h
 obtain rfl:(List.map (List.map nf) ([yk]:List (List Nat)))=t9:=some_inj ht9
 refine lit_s (ks:=([(a6,m6,c6)]:List Hd)) (enc:=hdV) (m:=1) hS rfl rfl ?_;intro r7 w hS
 obtain ⟨t10,ht10,h⟩:=bnd h
 refine wk_refine_finite H hS (Ent.sl mp0) (.cons (Ent.sl mp1) .nil) ht10 ?_;rintro w hS
 refine ⟨_,rfl,?_⟩
 refine cond_s h ?_ ?_<;>intro hc h
 ·
  replace hS:=hS.none (α:=Nat) (enc:=(Value.float .f64)) (t:=N.t_float64)
  cases some_inj h
  exact hK _ _ _ _ _ rfl (hS.pick (A:=[_,_,_,_,_,_]) [0] rfl)
 refine ⟨_,hS.cel mp4 rfl,_,hS.cel mp4 rfl,_,_,_,hS.cel mp4 rfl,?_⟩
 obtain ⟨⟨t11,t12⟩,ho11,h⟩:=bnd h
 refine wk_refine_Left H hS (qp.mono tl5) (Ent.sl mp1) (ya.mono tl5) (hG.mono tl5) ho11 ?_;clear hS ho11;rintro a8 m8 c8 jm w rfl hS
 refine ⟨_,_,_,_,rfl,?_⟩
 refine cond_s h ?_ ?_<;>intro hc h
 ·
  replace hS:=hS.none (α:=Nat) (enc:=(Value.float .f64)) (t:=N.t_float64)
  cases some_inj h
  exact hK _ _ _ _ _ rfl (hS.pick (A:=[_,_,_,_,_,_,_]) [0] rfl)
 obtain ⟨t13,ht13,h⟩:=bnd h
 refine wk_vector_Norm H hS (Ent.sl mp0) ht13 ?_;rintro z9 w rfl hS
 refine ⟨_,rfl,?_⟩
 obtain ⟨o14,h14,c14⟩:=bnd h
 refine cutM_i (fun s w=>∃ (a10:OA) (m11:Nat) (c12:Nat) (yt:List Nat),.inl (List.map nf yt)=o14∧s=((a10,m11,c12),())∧Ho w0 w ((sl a10 m11 c12 (List.map (Value.float .f64) yt) N.t_float64)::L)) (fun J14 hJ14=>?_) ?_
 ·
  have h:=h14
  clear h14
  refine iter_sim (fun s w t=>∃ (z15:Nat) (t16:Int) (a16:OA) (m17:Nat) (c18:Nat) (yy:List Nat),((nf z15),t16,(List.map nf yy))=t∧s=((a16,m17,c18),z15,t16,())∧Ho w0 w ((cl r2 [.int .i64 ql,.slice qk qi qj,.slice qr qs qt] N.t_Factor)::(cl r1 [.int .i64 qa,.int .i64 qc,.slice qe qb qg] N.t_Matrix)::(sl a16 m17 c18 (List.map (Value.float .f64) yy) N.t_float64)::L)) ?_ h ⟨_,_,_,_,_,_,rfl,rfl,(hS.pick (A:=[_,_,_,_,_,_]) [4,4,2] rfl)⟩
  clear h hS
  rintro s w t X q ⟨z15,t16,a16,m17,c18,yy,rfl,rfl,hS⟩ h hX hO
  unfold T_refine_Until_b2 at h
  try dsimp only
  refine cond_s h ?_ ?_<;>intro hc h
  ·
   refine ⟨_,hS.cel mp1 rfl,_,hS.cel mp1 rfl,_,_,_,hS.cel mp1 rfl,_,hS.cel mp0 rfl,_,_,_,hS.cel mp0 rfl,_,_,_,hS.cel mp0 rfl,?_⟩
   obtain ⟨⟨t18,t19⟩,ho18,h⟩:=bnd h
   refine wk_refine_Step H hS (qp.mono tl3) (qv.mono tl3) (vh.mono tl3) (Ent.sl mp2) (ya.mono tl3) (hG.mono tl3) ho18 ?_;clear hS ho18;rintro a20 m20 c20 bf w rfl hS
   refine ⟨_,_,_,_,rfl,?_⟩
   refine cond_s h ?_ ?_<;>intro hc h
   ·
    obtain rfl:=some_inj h
    have h:=congrArg some (hO _ rfl)
    obtain rfl:=some_inj h
    have h:=c14
    cases some_inj h
    exact hK _ _ _ _ _ rfl (hS.pick (A:=[_,_,_,_]) [3] rfl)
   refine ⟨_,hS.cel mp2 rfl,_,hS.cel mp2 rfl,_,_,_,hS.cel mp2 rfl,?_⟩
   obtain ⟨⟨t20,t21⟩,ho20,h⟩:=bnd h
   refine wk_refine_Left H hS (qp.mono tl4) (Ent.sl mp0) (ya.mono tl4) (hG.mono tl4) ho20 ?_;clear hS ho20;rintro a21 m21 c21 jp w rfl hS
   refine ⟨_,_,_,_,rfl,?_⟩
   refine cond_s h ?_ ?_<;>intro hc h
   ·
    obtain ⟨t22,ht22,h⟩:=bnd h
    refine wk_vector_Norm H hS (Ent.sl mp0) ht22 ?_;rintro z22 w rfl hS
    refine ⟨_,rfl,?_⟩
    obtain ⟨t23,ht23,h⟩:=bnd h
    obtain rfl:=fge_s ht23
    refine cond_s h ?_ ?_<;>intro hc h
    ·
     obtain rfl:=some_inj h
     have h:=congrArg some (hO _ rfl)
     obtain rfl:=some_inj h
     have h:=c14
     cases some_inj h
     exact hK _ _ _ _ _ rfl (hS.pick (A:=[_,_,_,_,_]) [4] rfl)
    obtain ⟨t24,ht24,h⟩:=bnd h
    refine wk_vector_Norm H hS (Ent.sl mp0) ht24 ?_;rintro z23 w rfl hS
    refine ⟨_,rfl,?_⟩
    obtain rfl:=some_inj h
    exact hX _ rfl _ _ ⟨_,_,_,_,_,_,rfl,rfl,(hS.pick (A:=[_,_,_,_,_]) [2,2,1] rfl)⟩
   obtain rfl:=some_inj h
   have h:=congrArg some (hO _ rfl)
   obtain rfl:=some_inj h
   have h:=c14
   cases some_inj h
   exact hK _ _ _ _ _ rfl (hS.pick (A:=[_,_,_,_,_]) [4] rfl)
  obtain rfl:=some_inj h
  have h:=congrArg some (hO _ rfl)
  obtain rfl:=some_inj h
  exact hJ14 _ _ ⟨_,_,_,_,rfl,rfl,(hS.pick (A:=[_,_,_]) [2] rfl)⟩
 clear h14 hS
 rintro s w ⟨a10,m11,c12,yt,rfl,rfl,hS⟩
 have h:=c14
 clear c14
 try dsimp only
 cases some_inj h
 exact hK _ _ _ _ _ rfl hS
theorem wk_k_Like {q0 q1 u0} (hS:Ho w0 w L)  (h:T_k_Like (nf q0) (nf q1)=some u0) (hK:∀ w1,Ho w0 w1 L→K (.bool u0) w1):CallsX P N.f_k_Like #[.float .f64 q0,.float .f64 q1] w K:=by
 refine H.k_Like q0 q1 w _ ?_
 unfold S_k_Like
 unfold T_k_Like at h
 try dsimp only
 obtain ⟨t1,ht1,h⟩:=bnd h
 obtain rfl:=feq_s ht1
 refine cond_s h ?_ ?_<;>intro hc h
 ·
  obtain ⟨t2,ht2,h⟩:=bnd h
  obtain rfl:=fne_s ht2
  refine cond_s h ?_ ?_<;>intro hc h
  ·
   obtain ⟨t3,ht3,h⟩:=bnd h
   obtain rfl:=fne_s ht3
   cases some_inj h
   exact hK _ hS
  cases some_inj h
  exact hK _ hS
 cases some_inj h
 exact hK _ hS
theorem wk_k_LikeReals {q0 qh qn vo q1 qo qu vm u0} (hS:Ho w0 w L) (qw:EF L vo q0 qh qn) (qz:EF L vm q1 qo qu) (h:T_k_LikeReals (List.map nf vo) (List.map nf vm)=some u0) (hK:∀ w1,Ho w0 w1 L→K (.bool u0) w1):CallsX P N.f_k_LikeReals #[.slice q0 qh qn,.slice q1 qo qu] w K:=by
 refine H.k_LikeReals q0 qh qn q1 qo qu w _ ?_
 unfold S_k_LikeReals
 unfold T_k_LikeReals at h
 try dsimp only
 obtain ⟨t1,ht1,h⟩:=bnd h
 obtain rfl:=lenF ht1 (qw.now (fun _ h=>h) hS)
 obtain ⟨t2,ht2,h⟩:=bnd h
 obtain rfl:=lenF ht2 (qz.now (fun _ h=>h) hS)
 refine cond_s h ?_ ?_<;>intro hc h
 ·
  cases some_inj h
  exact hK _ hS
 obtain ⟨o1,h1,c1⟩:=bnd h
 refine cutM_i (fun s w =>  .inl ()=o1∧s=(())∧Ho w0 w L) (fun J1 hJ1=>?_) ?_
 ·
  have h:=h1
  clear h1
  refine iter_sim (fun s w t=>∃ (t3:Int),t3=t∧s=(t3,())∧Ho w0 w L) ?_ h ⟨_,rfl,rfl,hS⟩
  clear h hS
  rintro s w t X q ⟨t3,rfl,rfl,hS⟩ h hX hO
  unfold T_k_LikeReals_b2 at h
  try dsimp only
  obtain ⟨t4,ht4,h⟩:=bnd h
  obtain rfl:=lenF ht4 (qw.now (fun _ h=>h) hS)
  refine cond_s h ?_ ?_<;>intro hc h
  ·
   obtain ⟨t5,ht5,h⟩:=bnd h
   obtain ⟨z2,rfl,q3x,vn,q3r⟩:=atF ht5
   refine idx_s (qw.now (fun _ h=>h) hS) q3x vn q3r ?_;intro b4 hb4
   refine ⟨_,rd_get (qw.now (fun _ h=>h) hS) hb4 q3x,?_⟩
   obtain ⟨t6,ht6,h⟩:=bnd h
   obtain ⟨z5,rfl,q6x,yi,q6r⟩:=atF ht6
   refine idx_s (qz.now (fun _ h=>h) hS) q6x yi q6r ?_;intro b7 hb7
   refine ⟨_,rd_get (qz.now (fun _ h=>h) hS) hb7 q6x,?_⟩
   refine drM_s hS ?_;intro w hS
   obtain ⟨t7,ht7,h⟩:=bnd h
   refine wk_k_Like H hS  ht7 ?_;rintro w hS
   refine ⟨_,rfl,?_⟩
   refine drM_s hS ?_;intro w hS
   refine cond_s h ?_ ?_<;>intro hc h
   ·
    obtain rfl:=some_inj h
    have h:=congrArg some (hO _ rfl)
    obtain rfl:=some_inj h
    have h:=c1
    cases some_inj h
    exact hK _ hS
   obtain rfl:=some_inj h
   exact hX _ rfl _ _ ⟨_,rfl,rfl,hS⟩
  obtain rfl:=some_inj h
  have h:=congrArg some (hO _ rfl)
  exact hJ1 _ _ ⟨some_inj h,rfl,hS⟩
 clear h1 hS
 rintro s w ⟨rfl,rfl,hS⟩
 have h:=c1
 clear c1
 try dsimp only
 cases some_inj h
 exact hK _ hS
theorem wk_w14_awake  {u0} (hS:Ho w0 w L) (hG:Ent L (tab64 N.g_1)) (h:T_w14_awake  = some u0) (hK:∀ w1,Ho w0 w1 L→K (.bool u0) w1):CallsX P N.f_w14_awake #[] w K:=by
 refine H.w14_awake  w _ ?_
 unfold S_w14_awake
 unfold T_w14_awake at h
 try dsimp only
 obtain ⟨⟨t1,t2,t3,t4,t5,t6⟩,ho1,h⟩:=bnd h
 refine wk_w14_two H hS  ho1 ?_;clear hS ho1;rintro a1 m1 c1 vm a2 m2 c2 vz a3 m3 c3 yu w rfl rfl rfl hS
 refine ⟨_,_,_,_,_,_,_,_,_,_,_,_,rfl,?_⟩
 refine newM_s hS ?_;intro r4 w hS
 refine newM_s hS ?_;intro r5 w hS
 replace hS:=ro1 hS
 refine stc_s hS rfl rfl ?_;intro w hS
 refine stc_s hS rfl rfl ?_;intro w hS
 refine stc_s hS rfl rfl ?_;intro w hS
 replace hS:=ro1 hS
 refine stc_s hS rfl rfl ?_;intro w hS
 refine stc_s hS rfl rfl ?_;intro w hS
 refine stc_s hS rfl rfl ?_;intro w hS
 refine ⟨_,hS.cel mp1 rfl,_,hS.cel mp1 rfl,_,_,_,hS.cel mp1 rfl,?_⟩
 obtain ⟨t7,ht7,h⟩:=bnd h
 obtain rfl:(List.map nf ([4607182418800017408,4607182418800017408]:List Nat))=t7:=some_inj ht7
 refine lit_s (ks:=[4607182418800017408,4607182418800017408]) (enc:=(Value.float .f64)) (m:=2) hS rfl rfl ?_;intro r6 w hS
 obtain ⟨t8,ht8,h⟩:=bnd h
 obtain rfl:(List.map nf ([4618441417868443648,4616189618054758400]:List Nat))=t8:=some_inj ht8
 refine lit_s (ks:=[4618441417868443648,4616189618054758400]) (enc:=(Value.float .f64)) (m:=2) hS rfl rfl ?_;intro r7 w hS
 obtain ⟨⟨t9,t10⟩,ho9,h⟩:=bnd h
 refine wk_refine_Left H hS (Ent.sl mp4) (Ent.sl mp1) (Ent.sl mp0) (hG.mono tl7) ho9 ?_;clear hS ho9;rintro a8 m8 c8 jm w rfl hS
 refine ⟨_,_,_,_,rfl,?_⟩
 refine ⟨_,hS.cel mp4 rfl,_,hS.cel mp4 rfl,_,_,_,hS.cel mp4 rfl,_,hS.cel mp3 rfl,_,_,_,hS.cel mp3 rfl,_,_,_,hS.cel mp3 rfl,?_⟩
 obtain ⟨t11,ht11,h⟩:=bnd h
 obtain rfl:(List.map nf ([4617315517961601024,4616189618054758400]:List Nat))=t11:=some_inj ht11
 refine lit_s (ks:=[4617315517961601024,4616189618054758400]) (enc:=(Value.float .f64)) (m:=2) hS rfl rfl ?_;intro r9 w hS
 obtain ⟨⟨t12,t13,t14⟩,ho12,h⟩:=bnd h
 refine wk_refine_Until H hS (Ent.sl mp6) (Ent.sl mp7) (Ent.sl mp8) (Ent.sl mp0) (hG.mono tl9) ho12 ?_;clear hS ho12;rintro a10 m10 c10 bh w rfl hS
 refine ⟨_,_,_,_,_,rfl,?_⟩
 obtain ⟨t15,ht15,h⟩:=bnd h
 obtain rfl:(List.map nf ([4607182418800017408,4607182418800017408]:List Nat))=t15:=some_inj ht15
 refine lit_s (ks:=[4607182418800017408,4607182418800017408]) (enc:=(Value.float .f64)) (m:=2) hS rfl rfl ?_;intro r11 w hS
 obtain ⟨t16,ht16,h⟩:=bnd h
 obtain rfl:(List.map nf ([4877398396442247168,4607182418800017408]:List Nat))=t16:=some_inj ht16
 refine lit_s (ks:=[4877398396442247168,4607182418800017408]) (enc:=(Value.float .f64)) (m:=2) hS rfl rfl ?_;intro r12 w hS
 obtain ⟨t17,ht17,h⟩:=bnd h
 obtain rfl:(List.map nf ([4877398396442247168]:List Nat))=t17:=some_inj ht17
 refine lit_s (ks:=[4877398396442247168]) (enc:=(Value.float .f64)) (m:=1) hS rfl rfl ?_;intro r13 w hS
 obtain ⟨⟨t18,t19⟩,ho18,h⟩:=bnd h
 refine wk_refine_Left H hS (Ent.sl mp2) (Ent.sl mp1) (Ent.sl mp0) (hG.mono tl13) ho18 ?_;clear hS ho18;rintro a14 m14 c14 jq w rfl hS
 refine ⟨_,_,_,_,rfl,?_⟩
 refine cond_s h ?_ ?_<;>intro hc h
 ·
  refine cond_s h ?_ ?_<;>intro hc h
  ·
   refine cond_s h ?_ ?_<;>intro hc h
   ·
    obtain ⟨t20,ht20,h⟩:=bnd h
    obtain rfl:(List.map nf ([4607182418800017408,0]:List Nat))=t20:=some_inj ht20
    refine lit_s (ks:=[4607182418800017408,0]) (enc:=(Value.float .f64)) (m:=2) hS rfl rfl ?_;intro r15 w hS
    obtain ⟨t21,ht21,h⟩:=bnd h
    refine wk_k_LikeReals H hS (Ent.sl mp7) (Ent.sl mp0) ht21 ?_;rintro w hS
    refine ⟨_,rfl,?_⟩
    refine cond_s h ?_ ?_<;>intro hc h
    ·
     obtain ⟨t22,ht22,h⟩:=bnd h
     obtain rfl:=lenF ht22 ((Ent.sl mp5).now (fun _ h=>h) hS)
     refine cond_s h ?_ ?_<;>intro hc h
     ·
      obtain ⟨t23,ht23,h⟩:=bnd h
      obtain ⟨z16,rfl,q17x,ju,q17r⟩:=atF ht23
      refine idx_s ((Ent.sl mp5).now (fun _ h=>h) hS) q17x ju q17r ?_;intro b18 hb18
      refine ⟨_,rd_get ((Ent.sl mp5).now (fun _ h=>h) hS) hb18 q17x,?_⟩
      obtain ⟨t24,ht24,h⟩:=bnd h
      obtain rfl:=fgt_s ht24
      refine cond_s h ?_ ?_<;>intro hc h
      ·
       obtain ⟨t25,ht25,h⟩:=bnd h
       obtain ⟨z19,rfl,q20x,ga,q20r⟩:=atF ht25
       refine idx_s ((Ent.sl mp5).now (fun _ h=>h) hS) q20x ga q20r ?_;intro b21 hb21
       refine ⟨_,rd_get ((Ent.sl mp5).now (fun _ h=>h) hS) hb21 q20x,?_⟩
       obtain ⟨t26,ht26,h⟩:=bnd h
       obtain rfl:=flt_s ht26
       refine cond_s h ?_ ?_<;>intro hc h
       ·
        refine cond_s h ?_ ?_<;>intro hc h
        ·
         obtain ⟨t27,ht27,h⟩:=bnd h
         obtain rfl:(List.map nf ([13830554455654793216]:List Nat))=t27:=some_inj ht27
         refine lit_s (ks:=[13830554455654793216]) (enc:=(Value.float .f64)) (m:=1) hS rfl rfl ?_;intro r22 w hS
         obtain ⟨t28,ht28,h⟩:=bnd h
         refine wk_k_LikeReals H hS (Ent.sl mp2) (Ent.sl mp0) ht28 ?_;rintro w hS
         refine ⟨_,rfl,?_⟩
         cases some_inj h
         exact hK _ (hS.pick (A:=[_,_,_,_,_,_,_,_,_,_,_,_,_,_,_,_]) [] rfl)
        cases some_inj h
        exact hK _ (hS.pick (A:=[_,_,_,_,_,_,_,_,_,_,_,_,_,_,_]) [] rfl)
       cases some_inj h
       exact hK _ (hS.pick (A:=[_,_,_,_,_,_,_,_,_,_,_,_,_,_,_]) [] rfl)
      cases some_inj h
      exact hK _ (hS.pick (A:=[_,_,_,_,_,_,_,_,_,_,_,_,_,_,_]) [] rfl)
     cases some_inj h
     exact hK _ (hS.pick (A:=[_,_,_,_,_,_,_,_,_,_,_,_,_,_,_]) [] rfl)
    cases some_inj h
    exact hK _ (hS.pick (A:=[_,_,_,_,_,_,_,_,_,_,_,_,_,_,_]) [] rfl)
   cases some_inj h
   exact hK _ (hS.pick (A:=[_,_,_,_,_,_,_,_,_,_,_,_,_,_]) [] rfl)
  cases some_inj h
  exact hK _ (hS.pick (A:=[_,_,_,_,_,_,_,_,_,_,_,_,_,_]) [] rfl)
 cases some_inj h
 exact hK _ (hS.pick (A:=[_,_,_,_,_,_,_,_,_,_,_,_,_,_]) [] rfl)
theorem wk_w14_great {qa qc qe qb qg qq u0} (hS:Ho w0 w L) (qp:EF L qq qe qb qg) (h:T_w14_great qa qc (List.map nf qq)=some u0) (hK:∀ w1,Ho w0 w1 L→K (.bool u0) w1):CallsX P N.f_w14_great #[.agg #[.int .i64 qa,.int .i64 qc,.slice qe qb qg]] w K:=by
 refine H.w14_great qa qc qe qb qg w _ ?_
 unfold S_w14_great
 unfold T_w14_great at h
 try dsimp only
 refine newM_s hS ?_;intro r1 w hS
 refine ⟨_,_,_,hS.cel mp0 rfl,?_⟩
 obtain ⟨t1,ht1,h⟩:=bnd h
 obtain rfl:=lenF ht1 ((qp.mono tl1).now (fun _ h=>h) hS)
 cases some_inj h
 exact hK _ (hS.pick (A:=[_]) [] rfl)
theorem wk_k_LentReals {q0 qh qn vo u0} (hS:Ho w0 w L) (qw:EF L vo q0 qh qn) (hx:T_k_LentReals (List.map nf vo)=some u0) (hK:∀ (r0:Nat) (w1:World),(List.map nf vo)=u0→Ho w0 w1 ((sl (some ⟨r0,0,none⟩) (qh+12) (qh+12) (List.map (Value.float .f64) (vo++marks)) N.t_float64)::L)→K (.slice (some ⟨r0,0,none⟩) qh (qh+12)) w1):CallsX P N.f_k_LentReals #[.slice q0 qh qn] w K:=by
 unfold T_k_LentReals at hx
 have hd:(List.map nf vo).length≤4294967000:=by
  rcases Nat.lt_or_ge 4294967000 (List.map nf vo).length with h | h
  ·
   rw [decide_eq_false (by omega)] at hx;cases hx
  exact h
 rw [decide_eq_true hd] at hx
 have hx:=some_inj hx
 have r0:=(qw.now (fun _ h=>h) hS).reals
 refine (lentReals_c H r0 (by have:=r0.len;simp at hd;omega)).mono ?_
 rintro _ w1 ⟨r,M,rfl,h1,hm⟩
 exact hK r w1 hx (Ho.gain hS h1 hm (by have:=r0.len;simp [marks];omega))
theorem wk_k_LentMatrix {qa qc qe qb qg qq u0 u1 u2} (hS:Ho w0 w L) (qp:EF L qq qe qb qg) (h:T_k_LentMatrix qa qc (List.map nf qq)=some (u0,u1,u2)) (hK:∀ (r2:Nat) (w1:World),(List.map nf qq)=u2→Ho w0 w1 ((sl (some ⟨r2,0,none⟩) (qb+12) (qb+12) (List.map (Value.float .f64) (qq++marks)) N.t_float64)::L)→K (.agg #[.int .i64 u0,.int .i64 u1,.slice (some ⟨r2,0,none⟩) qb (qb+12)]) w1):CallsX P N.f_k_LentMatrix #[.agg #[.int .i64 qa,.int .i64 qc,.slice qe qb qg]] w K:=by
 refine H.k_LentMatrix qa qc qe qb qg w _ ?_
 unfold S_k_LentMatrix
 unfold T_k_LentMatrix at h
 try dsimp only
 refine newM_s hS ?_;intro r1 w hS
 refine newM_s hS ?_;intro r2 w hS
 refine ⟨_,_,_,hS.cel mp1 rfl,?_⟩
 obtain ⟨t1,ht1,h⟩:=bnd h
 refine wk_k_LentReals H hS (qp.mono tl2) ht1 ?_;rintro r3 w rfl hS
 refine ⟨_,_,_,rfl,?_⟩
 replace hS:=ro2 hS
 refine stc_s hS rfl rfl ?_;intro w hS
 refine ⟨_,hS.cel mp0 rfl,_,hS.cel mp0 rfl,_,_,_,hS.cel mp0 rfl,?_⟩
 replace hS:=ro2 hS
 refine stc_s hS rfl rfl ?_;intro w hS
 refine stc_s hS rfl rfl ?_;intro w hS
 refine stc_s hS rfl rfl ?_;intro w hS
 refine ⟨_,hS.cel mp0 rfl,_,hS.cel mp0 rfl,_,_,_,hS.cel mp0 rfl,?_⟩
 cases some_inj h
 exact hK _ _ rfl (hS.pick (A:=[_,_,_]) [2] rfl)
theorem wk_k_LentFactor {qa qc qd qf qx qe qb qg qq u0 u1 u2} (hS:Ho w0 w L) (qm:EF L qx qc qd qf) (qp:EF L qq qe qb qg) (h:T_k_LentFactor qa (List.map nf qx) (List.map nf qq)=some (u0,u1,u2)) (hK:∀ (r1:Nat) (r2:Nat) (w1:World),(List.map nf qx)=u1→(List.map nf qq)=u2→Ho w0 w1 ((sl (some ⟨r1,0,none⟩) (qd+12) (qd+12) (List.map (Value.float .f64) (qx++marks)) N.t_float64)::(sl (some ⟨r2,0,none⟩) (qb+12) (qb+12) (List.map (Value.float .f64) (qq++marks)) N.t_float64)::L)→K (.agg #[.int .i64 u0,.slice (some ⟨r1,0,none⟩) qd (qd+12),.slice (some ⟨r2,0,none⟩) qb (qb+12)]) w1):CallsX P N.f_k_LentFactor #[.agg #[.int .i64 qa,.slice qc qd qf,.slice qe qb qg]] w K:=by
 refine H.k_LentFactor qa qc qd qf qe qb qg w _ ?_
 unfold S_k_LentFactor
 unfold T_k_LentFactor at h
 try dsimp only
 refine newM_s hS ?_;intro r1 w hS
 refine newM_s hS ?_;intro r2 w hS
 refine ⟨_,_,_,hS.cel mp1 rfl,?_⟩
 obtain ⟨t1,ht1,h⟩:=bnd h
 refine wk_k_LentReals H hS (qm.mono tl2) ht1 ?_;rintro r3 w rfl hS
 refine ⟨_,_,_,rfl,?_⟩
 replace hS:=ro2 hS
 refine stc_s hS rfl rfl ?_;intro w hS
 refine ⟨_,_,_,hS.cel mp0 rfl,?_⟩
 obtain ⟨t2,ht2,h⟩:=bnd h
 refine wk_k_LentReals H hS (qp.mono tl3) ht2 ?_;rintro r4 w rfl hS
 refine ⟨_,_,_,rfl,?_⟩
 replace hS:=ro1 hS
 refine stc_s hS rfl rfl ?_;intro w hS
 refine ⟨_,hS.cel mp0 rfl,_,_,_,hS.cel mp0 rfl,_,_,_,hS.cel mp0 rfl,?_⟩
 replace hS:=ro3 hS
 refine stc_s hS rfl rfl ?_;intro w hS
 refine stc_s hS rfl rfl ?_;intro w hS
 refine stc_s hS rfl rfl ?_;intro w hS
 refine ⟨_,hS.cel mp0 rfl,_,_,_,hS.cel mp0 rfl,_,_,_,hS.cel mp0 rfl,?_⟩
 cases some_inj h
 exact hK _ _ _ rfl rfl (hS.pick (A:=[_,_,_,_]) [3,2] rfl)
theorem wk_r10_may {q0 u0} (hS:Ho w0 w L)  (h:T_r10_may q0=some u0) (hK:∀ w1,Ho w0 w1 L→K (.bool u0) w1):CallsX P N.f_r10_may #[.int .i64 q0] w K:=by
 refine H.r10_may q0 w _ ?_
 unfold S_r10_may
 unfold T_r10_may at h
 try dsimp only
 refine cond_s h ?_ ?_<;>intro hc h
 ·
  cases some_inj h
  exact hK _ hS
 cases some_inj h
 exact hK _ hS
theorem wk_r10_Right {qa qc qe qb qg qq u0} (hS:Ho w0 w L) (qp:EF L qq qe qb qg) (h:T_r10_Right qa qc (List.map nf qq)=some u0) (hK:∀ w1,Ho w0 w1 L→K (.bool u0) w1):CallsX P N.f_r10_Right #[.agg #[.int .i64 qa,.int .i64 qc,.slice qe qb qg]] w K:=by
 refine H.r10_Right qa qc qe qb qg w _ ?_
 unfold S_r10_Right
 unfold T_r10_Right at h
 try dsimp only
 refine newM_s hS ?_;intro r1 w hS
 refine ⟨_,hS.cel mp0 rfl,?_⟩
 obtain ⟨t1,ht1,h⟩:=bnd h
 refine wk_r10_may H hS  ht1 ?_;rintro w hS
 refine ⟨_,rfl,?_⟩
 refine cond_s h ?_ ?_<;>intro hc h
 ·
  refine ⟨_,hS.cel mp0 rfl,?_⟩
  obtain ⟨t2,ht2,h⟩:=bnd h
  refine wk_r10_may H hS  ht2 ?_;rintro w hS
  refine ⟨_,rfl,?_⟩
  refine cond_s h ?_ ?_<;>intro hc h
  ·
   refine ⟨_,_,_,hS.cel mp0 rfl,?_⟩
   obtain ⟨t3,ht3,h⟩:=bnd h
   obtain rfl:=lenF ht3 ((qp.mono tl1).now (fun _ h=>h) hS)
   refine ⟨_,hS.cel mp0 rfl,_,hS.cel mp0 rfl,?_⟩
   cases some_inj h
   exact hK _ (hS.pick (A:=[_]) [] rfl)
  cases some_inj h
  exact hK _ (hS.pick (A:=[_]) [] rfl)
 cases some_inj h
 exact hK _ (hS.pick (A:=[_]) [] rfl)
theorem wk_r14_fit {qa qc qe qb qg qq q1 qo qu vm q2 qy vg vz u0} (hS:Ho w0 w L) (qp:EF L qq qe qb qg) (qz:EF L vm q1 qo qu) (ya:EF L vz q2 qy vg) (h:T_r14_fit qa qc (List.map nf qq) (List.map nf vm) (List.map nf vz)=some u0) (hK:∀ w1,Ho w0 w1 L→K (.bool u0) w1):CallsX P N.f_r14_fit #[.agg #[.int .i64 qa,.int .i64 qc,.slice qe qb qg],.slice q1 qo qu,.slice q2 qy vg] w K:=by
 refine H.r14_fit qa qc qe qb qg q1 qo qu q2 qy vg w _ ?_
 unfold S_r14_fit
 unfold T_r14_fit at h
 try dsimp only
 refine newM_s hS ?_;intro r1 w hS
 refine ⟨_,hS.cel mp0 rfl,_,hS.cel mp0 rfl,_,_,_,hS.cel mp0 rfl,?_⟩
 obtain ⟨t1,ht1,h⟩:=bnd h
 refine wk_r10_Right H hS (qp.mono tl1) ht1 ?_;rintro w hS
 refine ⟨_,rfl,?_⟩
 refine cond_s h ?_ ?_<;>intro hc h
 ·
  obtain ⟨t2,ht2,h⟩:=bnd h
  obtain rfl:=lenF ht2 ((qz.mono tl1).now (fun _ h=>h) hS)
  refine ⟨_,hS.cel mp0 rfl,?_⟩
  refine cond_s h ?_ ?_<;>intro hc h
  ·
   obtain ⟨t3,ht3,h⟩:=bnd h
   obtain rfl:=lenF ht3 ((ya.mono tl1).now (fun _ h=>h) hS)
   refine ⟨_,hS.cel mp0 rfl,?_⟩
   cases some_inj h
   exact hK _ (hS.pick (A:=[_]) [] rfl)
  cases some_inj h
  exact hK _ (hS.pick (A:=[_]) [] rfl)
 cases some_inj h
 exact hK _ (hS.pick (A:=[_]) [] rfl)
theorem wk_r12_Right {qa qc qd qf qx qe qb qg qq u0} (hS:Ho w0 w L) (qm:EF L qx qc qd qf) (qp:EF L qq qe qb qg) (h:T_r12_Right qa (List.map nf qx) (List.map nf qq)=some u0) (hK:∀ w1,Ho w0 w1 L→K (.bool u0) w1):CallsX P N.f_r12_Right #[.agg #[.int .i64 qa,.slice qc qd qf,.slice qe qb qg]] w K:=by
 refine H.r12_Right qa qc qd qf qe qb qg w _ ?_
 unfold S_r12_Right
 unfold T_r12_Right at h
 try dsimp only
 refine newM_s hS ?_;intro r1 w hS
 refine ⟨_,hS.cel mp0 rfl,?_⟩
 refine cond_s h ?_ ?_<;>intro hc h
 ·
  refine ⟨_,hS.cel mp0 rfl,?_⟩
  refine cond_s h ?_ ?_<;>intro hc h
  ·
   refine ⟨_,_,_,hS.cel mp0 rfl,?_⟩
   obtain ⟨t1,ht1,h⟩:=bnd h
   obtain rfl:=lenF ht1 ((qm.mono tl1).now (fun _ h=>h) hS)
   refine ⟨_,hS.cel mp0 rfl,_,hS.cel mp0 rfl,?_⟩
   refine ⟨by decide,?_⟩
   refine cond_s h ?_ ?_<;>intro hc h
   ·
    refine ⟨_,_,_,hS.cel mp0 rfl,?_⟩
    obtain ⟨t2,ht2,h⟩:=bnd h
    obtain rfl:=lenF ht2 ((qp.mono tl1).now (fun _ h=>h) hS)
    refine ⟨_,hS.cel mp0 rfl,?_⟩
    cases some_inj h
    exact hK _ (hS.pick (A:=[_]) [] rfl)
   cases some_inj h
   exact hK _ (hS.pick (A:=[_]) [] rfl)
  cases some_inj h
  exact hK _ (hS.pick (A:=[_]) [] rfl)
 cases some_inj h
 exact hK _ (hS.pick (A:=[_]) [] rfl)
theorem wk_r14_fits {qa qc qe qb qg qq ql qk qi qj vj qr qs qt vf u0} (hS:Ho w0 w L) (qp:EF L qq qe qb qg) (qv:EF L vj qk qi qj) (vh:EF L vf qr qs qt) (h:T_r14_fits qa qc (List.map nf qq) ql (List.map nf vj) (List.map nf vf)=some u0) (hK:∀ w1,Ho w0 w1 L→K (.bool u0) w1):CallsX P N.f_r14_fits #[.agg #[.int .i64 qa,.int .i64 qc,.slice qe qb qg],.agg #[.int .i64 ql,.slice qk qi qj,.slice qr qs qt]] w K:=by
 refine H.r14_fits qa qc qe qb qg ql qk qi qj qr qs qt w _ ?_
 unfold S_r14_fits
 unfold T_r14_fits at h
 try dsimp only
 refine newM_s hS ?_;intro r1 w hS
 refine newM_s hS ?_;intro r2 w hS
 refine ⟨_,hS.cel mp1 rfl,_,hS.cel mp1 rfl,_,_,_,hS.cel mp1 rfl,?_⟩
 obtain ⟨t1,ht1,h⟩:=bnd h
 refine wk_r10_Right H hS (qp.mono tl2) ht1 ?_;rintro w hS
 refine ⟨_,rfl,?_⟩
 refine cond_s h ?_ ?_<;>intro hc h
 ·
  refine ⟨_,hS.cel mp0 rfl,_,_,_,hS.cel mp0 rfl,_,_,_,hS.cel mp0 rfl,?_⟩
  obtain ⟨t2,ht2,h⟩:=bnd h
  refine wk_r12_Right H hS (qv.mono tl2) (vh.mono tl2) ht2 ?_;rintro w hS
  refine ⟨_,rfl,?_⟩
  refine cond_s h ?_ ?_<;>intro hc h
  ·
   refine ⟨_,hS.cel mp1 rfl,_,hS.cel mp0 rfl,?_⟩
   refine cond_s h ?_ ?_<;>intro hc h
   ·
    refine ⟨_,hS.cel mp1 rfl,_,hS.cel mp0 rfl,?_⟩
    cases some_inj h
    exact hK _ (hS.pick (A:=[_,_]) [] rfl)
   cases some_inj h
   exact hK _ (hS.pick (A:=[_,_]) [] rfl)
  cases some_inj h
  exact hK _ (hS.pick (A:=[_,_]) [] rfl)
 cases some_inj h
 exact hK _ (hS.pick (A:=[_,_]) [] rfl)
theorem wk_r14_finite {q0 qh qn vo u0} (hS:Ho w0 w L) (qw:EF L vo q0 qh qn) (h:T_r14_finite (List.map nf vo)=some u0) (hK:∀ w1,Ho w0 w1 L→K (.bool u0) w1):CallsX P N.f_r14_finite #[.slice q0 qh qn] w K:=by
 refine H.r14_finite q0 qh qn w _ ?_
 unfold S_r14_finite
 unfold T_r14_finite at h
 try dsimp only
 obtain ⟨o1,h1,c1⟩:=bnd h
 refine cutM_i (fun s w =>  .inl ()=o1∧s=(())∧Ho w0 w L) (fun J1 hJ1=>?_) ?_
 ·
  have h:=h1
  clear h1
  refine iter_sim (fun s w t=>∃ (t1:Int),t1=t∧s=(t1,())∧Ho w0 w L) ?_ h ⟨_,rfl,rfl,hS⟩
  clear h hS
  rintro s w t X q ⟨t1,rfl,rfl,hS⟩ h hX hO
  unfold T_r14_finite_b2 at h
  try dsimp only
  obtain ⟨t2,ht2,h⟩:=bnd h
  obtain rfl:=lenF ht2 (qw.now (fun _ h=>h) hS)
  refine cond_s h ?_ ?_<;>intro hc h
  ·
   obtain ⟨t3,ht3,h⟩:=bnd h
   obtain ⟨z2,rfl,q3x,vn,q3r⟩:=atF ht3
   refine idx_s (qw.now (fun _ h=>h) hS) q3x vn q3r ?_;intro b4 hb4
   refine ⟨_,rd_get (qw.now (fun _ h=>h) hS) hb4 q3x,?_⟩
   obtain ⟨t4,ht4,h⟩:=bnd h
   obtain ⟨z5,rfl,q6x,yi,q6r⟩:=atF ht4
   refine idx_s (qw.now (fun _ h=>h) hS) q6x yi q6r ?_;intro b7 hb7
   refine ⟨_,rd_get (qw.now (fun _ h=>h) hS) hb7 q6x,?_⟩
   obtain ⟨t5,ht5,h⟩:=bnd h
   refine fsub_s ht5 hS ?_;clear ht5;rintro z8 _ rfl _
   obtain ⟨t6,ht6,h⟩:=bnd h
   obtain rfl:=fne_s ht6
   refine drM_s hS ?_;intro w hS
   refine cond_s h ?_ ?_<;>intro hc h
   ·
    obtain rfl:=some_inj h
    have h:=congrArg some (hO _ rfl)
    obtain rfl:=some_inj h
    have h:=c1
    cases some_inj h
    exact hK _ hS
   obtain rfl:=some_inj h
   exact hX _ rfl _ _ ⟨_,rfl,rfl,hS⟩
  obtain rfl:=some_inj h
  have h:=congrArg some (hO _ rfl)
  exact hJ1 _ _ ⟨some_inj h,rfl,hS⟩
 clear h1 hS
 rintro s w ⟨rfl,rfl,hS⟩
 have h:=c1
 clear c1
 try dsimp only
 cases some_inj h
 exact hK _ hS
theorem wk_r01_fields {q0 u0 u1 u2} (hS:Ho w0 w L)  (h:T_r01_fields (nf q0)=some (u0,u1,u2)) (hK:∀ w1,Ho w0 w1 L→K (.tuple #[.bool u0,.int .i64 u1,.int .u64 u2]) w1):CallsX P N.f_r01_fields #[.float .f64 q0] w K:=by
 refine H.r01_fields q0 w _ ?_
 unfold S_r01_fields
 unfold T_r01_fields at h
 try dsimp only
 obtain ⟨t1,ht1,h⟩:=bnd h
 refine wk_math_Float64bits H hS  ht1 ?_;rintro w hS
 refine ⟨_,rfl,?_⟩
 refine ⟨by decide,?_⟩
 refine ⟨by decide,?_⟩
 refine ⟨by decide,?_⟩
 refine ⟨by decide,?_⟩
 cases some_inj h
 exact hK _ hS
theorem wk_r01_Kind {q0 u0} (hS:Ho w0 w L)  (hx:T_r01_Kind (nf q0)=some u0) (hK:∀ w1,Ho w0 w1 L→K (.int .i64 u0) w1):CallsX P N.f_r01_Kind #[.float .f64 q0] w K:=by
 unfold T_r01_Kind at hx
 have hx:=some_inj hx
 refine (kind_c H q0 w).mono ?_
 rintro _ w1 ⟨rfl,h1⟩
 have e:(if expF q0=2047 then (if fracF q0=0 then (3:Int) else 4) else if expF q0=0 then (if fracF q0=0 then 0 else 1) else 2)=u0:=by
  rw [← hx]
  cases hn:isNaN q0 with
  | false=>rw [nf_of_not hn]
  | true=>
   rw [nf_of_nan hn]
   have e1:expF qnan=2047:=by decide +kernel
   have e2:fracF qnan≠0:=by decide +kernel
   rw [isNaN_fields] at hn
   simp at hn
   simp [hn,e1,e2]
 rw [e]
 exact hK _ (hS.next h1)
theorem wk_r01_Finite {q0 u0} (hS:Ho w0 w L)  (h:T_r01_Finite (nf q0)=some u0) (hK:∀ w1,Ho w0 w1 L→K (.bool u0) w1):CallsX P N.f_r01_Finite #[.float .f64 q0] w K:=by
 refine H.r01_Finite q0 w _ ?_
 unfold S_r01_Finite
 unfold T_r01_Finite at h
 try dsimp only
 obtain ⟨t1,ht1,h⟩:=bnd h
 refine wk_r01_Kind H hS  ht1 ?_;rintro w hS
 refine ⟨_,rfl,?_⟩
 cases some_inj h
 exact hK _ hS
theorem wk_r01_Split {q0 u0 u1 u2 u3} (hS:Ho w0 w L)  (h:T_r01_Split (nf q0)=some (u0,u1,u2,u3)) (hK:∀ w1,Ho w0 w1 L→K (.tuple #[.agg #[.bool u0,.int .u64 u1,.int .i64 u2],.bool u3]) w1):CallsX P N.f_r01_Split #[.float .f64 q0] w K:=by
 refine H.r01_Split q0 w _ ?_
 unfold S_r01_Split
 unfold T_r01_Split at h
 try dsimp only
 refine newM_s hS ?_;intro r1 w hS
 obtain ⟨t1,ht1,h⟩:=bnd h
 refine wk_r01_Finite H hS  ht1 ?_;rintro w hS
 refine ⟨_,rfl,?_⟩
 refine cond_s h ?_ ?_<;>intro hc h
 ·
  refine stc_s hS rfl rfl ?_;intro w hS
  refine stc_s hS rfl rfl ?_;intro w hS
  refine stc_s hS rfl rfl ?_;intro w hS
  refine ⟨_,hS.cel mp0 rfl,_,hS.cel mp0 rfl,_,hS.cel mp0 rfl,?_⟩
  cases some_inj h
  exact hK _ (hS.pick (A:=[_]) [] rfl)
 obtain ⟨⟨t2,t3,t4⟩,ho2,h⟩:=bnd h
 refine wk_r01_fields H hS  ho2 ?_;clear hS ho2;rintro w hS
 refine ⟨_,_,_,rfl,?_⟩
 refine newM_s hS ?_;intro r2 w hS
 refine stc_s hS rfl rfl ?_;intro w hS
 refine stc_s hS rfl rfl ?_;intro w hS
 refine stc_s hS rfl rfl ?_;intro w hS
 obtain ⟨o3,h3,c3⟩:=bnd h
 refine cutM_i (fun s w=>∃ (t5:Int) (t6:Int),(t5,t6)=o3∧s=(())∧Ho w0 w ((cl r2 [.bool t2,.int .u64 t5,.int .i64 t6] N.t_Parts)::(cl r1 [.bool false,.int .u64 0,.int .i64 0] N.t_Parts)::L)) (fun J3 hJ3=>?_) ?_
 ·
  have h:=h3
  clear h3
  refine cond_s h ?_ ?_<;>intro hc h
  ·
   refine stc_s hS rfl rfl ?_;intro w hS
   refine stc_s hS rfl rfl ?_;intro w hS
   exact hJ3 _ _ ⟨_,_,some_inj h,rfl,hS⟩
  exact hJ3 _ _ ⟨_,_,some_inj h,rfl,hS⟩
 clear h3 hS
 rintro s w ⟨t5,t6,rfl,rfl,hS⟩
 have h:=c3
 clear c3
 try dsimp only
 refine ⟨_,hS.cel mp0 rfl,?_⟩
 obtain ⟨o4,h4,c4⟩:=bnd h
 refine cutM_i (fun s w=>∃ (t7:Int),t7=o4∧s=(())∧Ho w0 w ((cl r2 [.bool t2,.int .u64 t5,.int .i64 t7] N.t_Parts)::(cl r1 [.bool false,.int .u64 0,.int .i64 0] N.t_Parts)::L)) (fun J4 hJ4=>?_) ?_
 ·
  have h:=h4
  clear h4
  refine cond_s h ?_ ?_<;>intro hc h
  ·
   refine stc_s hS rfl rfl ?_;intro w hS
   exact hJ4 _ _ ⟨_,some_inj h,rfl,hS⟩
  exact hJ4 _ _ ⟨_,some_inj h,rfl,hS⟩
 clear h4 hS
 rintro s w ⟨t7,rfl,rfl,hS⟩
 have h:=c4
 clear c4
 try dsimp only
 obtain ⟨o5,h5,c5⟩:=bnd h
 refine cutM_i (fun s w=>∃ (t8:Int) (t9:Int),(t8,t9)=o5∧s=(())∧Ho w0 w ((cl r2 [.bool t2,.int .u64 t8,.int .i64 t9] N.t_Parts)::(cl r1 [.bool false,.int .u64 0,.int .i64 0] N.t_Parts)::L)) (fun J5 hJ5=>?_) ?_
 ·
  have h:=h5
  clear h5
  refine iter_sim (fun s w t=>∃ (t10:Int) (t11:Int),(t10,t11)=t∧s=(())∧Ho w0 w ((cl r2 [.bool t2,.int .u64 t10,.int .i64 t11] N.t_Parts)::(cl r1 [.bool false,.int .u64 0,.int .i64 0] N.t_Parts)::L)) ?_ h ⟨_,_,rfl,rfl,hS⟩
  clear h hS
  rintro s w t X q ⟨t10,t11,rfl,rfl,hS⟩ h hX hO
  unfold T_r01_Split_b2 at h
  try dsimp only
  refine ⟨_,hS.cel mp0 rfl,?_⟩
  refine cond_s h ?_ ?_<;>intro hc h
  ·
   refine ⟨_,hS.cel mp0 rfl,?_⟩
   refine ⟨by decide,?_⟩
   refine cond_s h ?_ ?_<;>intro hc h
   ·
    refine ⟨_,hS.cel mp0 rfl,?_⟩
    refine ⟨by decide,?_⟩
    refine stc_s hS rfl rfl ?_;intro w hS
    refine ⟨_,hS.cel mp0 rfl,?_⟩
    refine stc_s hS rfl rfl ?_;intro w hS
    obtain rfl:=some_inj h
    exact hX _ rfl _ _ ⟨_,_,rfl,rfl,hS⟩
   obtain rfl:=some_inj h
   have h:=congrArg some (hO _ rfl)
   exact hJ5 _ _ ⟨_,_,some_inj h,rfl,hS⟩
  obtain rfl:=some_inj h
  have h:=congrArg some (hO _ rfl)
  exact hJ5 _ _ ⟨_,_,some_inj h,rfl,hS⟩
 clear h5 hS
 rintro s w ⟨t8,t9,rfl,rfl,hS⟩
 have h:=c5
 clear c5
 try dsimp only
 refine ⟨_,hS.cel mp0 rfl,_,hS.cel mp0 rfl,_,hS.cel mp0 rfl,?_⟩
 replace hS:=ro1 hS
 refine stc_s hS rfl rfl ?_;intro w hS
 refine stc_s hS rfl rfl ?_;intro w hS
 refine stc_s hS rfl rfl ?_;intro w hS
 refine ⟨_,hS.cel mp0 rfl,_,hS.cel mp0 rfl,_,hS.cel mp0 rfl,?_⟩
 cases some_inj h
 exact hK _ (hS.pick (A:=[_,_]) [] rfl)
theorem wk_r02_NatTrim {q0 qh qn l0 u0} (hS:Ho w0 w L) (qw:EU L l0 q0 qh qn) (h:T_r02_NatTrim l0=some u0) (hK:∀ (a0:OA) (n0 c0:Nat) (w1:World),Ho w0 w1 ((sl a0 n0 c0 (List.map (Value.int .u64) u0) N.t_uint64)::L)→K (.slice a0 n0 c0) w1):CallsX P N.f_r02_NatTrim #[.slice q0 qh qn] w K:=by
 refine H.r02_NatTrim q0 qh qn w _ ?_
 unfold S_r02_NatTrim
 unfold T_r02_NatTrim at h
 try dsimp only
 obtain ⟨t1,ht1,h⟩:=bnd h
 obtain rfl:=lenE ht1 (qw.now (fun _ h=>h) hS)
 obtain ⟨o1,h1,c1⟩:=bnd h
 refine cutM_i (fun s w=>∃ (t2:Int),t2=o1∧s=(t2,())∧Ho w0 w L) (fun J1 hJ1=>?_) ?_
 ·
  have h:=h1
  clear h1
  refine iter_sim (fun s w t=>∃ (t3:Int),t3=t∧s=(t3,())∧Ho w0 w L) ?_ h ⟨_,rfl,rfl,hS⟩
  clear h hS
  rintro s w t X q ⟨t3,rfl,rfl,hS⟩ h hX hO
  unfold T_r02_NatTrim_b2 at h
  try dsimp only
  refine cond_s h ?_ ?_<;>intro hc h
  ·
   obtain ⟨t4,ht4,h⟩:=bnd h
   obtain ⟨q2x,qy,q2r⟩:=atE ht4
   refine idx_s (qw.now (fun _ h=>h) hS) q2x qy q2r ?_;intro b3 hb3
   refine ⟨_,rd_get (qw.now (fun _ h=>h) hS) hb3 q2x,?_⟩
   refine cond_s h ?_ ?_<;>intro hc h
   ·
    obtain rfl:=some_inj h
    exact hX _ rfl _ _ ⟨_,rfl,rfl,hS⟩
   obtain rfl:=some_inj h
   have h:=congrArg some (hO _ rfl)
   exact hJ1 _ _ ⟨_,some_inj h,rfl,hS⟩
  obtain rfl:=some_inj h
  have h:=congrArg some (hO _ rfl)
  exact hJ1 _ _ ⟨_,some_inj h,rfl,hS⟩
 clear h1 hS
 rintro s w ⟨t2,rfl,rfl,hS⟩
 have h:=c1
 clear c1
 try dsimp only
 obtain ⟨t5,ht5,h⟩:=bnd h
 obtain ⟨rfl,zj,ge,gf⟩:=subE ht5
 have gg:=(qw.now (fun _ h=>h) hS).hiCap gf
 refine ⟨ge,gg,?_⟩
 obtain ⟨t6,ht6,h⟩:=bnd h
 obtain ⟨rfl,kt6⟩:=appE ht6
 replace hS:=hS.none (α:=Int) (enc:=(Value.int .u64)) (t:=N.t_uint64)
 refine app_s hS kt6 ((Ent.upto (qw.mono tl1) ge gf).now (fun _ h=>h) hS) (fun _=>rfl) rfl ?_;clear hS kt6;intro a5 c5 w hS
 cases some_inj h
 exact hK _ _ _ _ hS
theorem wk_r02_NatOf {q0 u0} (hS:Ho w0 w L)  (h:T_r02_NatOf q0=some u0) (hK:∀ (a0:OA) (n0 c0:Nat) (w1:World),Ho w0 w1 ((sl a0 n0 c0 (List.map (Value.int .u64) u0) N.t_uint64)::L)→K (.slice a0 n0 c0) w1):CallsX P N.f_r02_NatOf #[.int .u64 q0] w K:=by
 refine H.r02_NatOf q0 w _ ?_
 unfold S_r02_NatOf
 unfold T_r02_NatOf at h
 try dsimp only
 obtain ⟨t1,ht1,h⟩:=bnd h
 obtain rfl:([q0]:List Int)=t1:=some_inj ht1
 refine lit_s (ks:=[q0]) (enc:=(Value.int .u64)) (m:=1) hS rfl rfl ?_;intro r1 w hS
 obtain ⟨t2,ht2,h⟩:=bnd h
 refine wk_r02_NatTrim H hS (Ent.sl mp0) ht2 ?_;rintro a2 m2 c2 w hS
 refine ⟨_,_,_,rfl,?_⟩
 cases some_inj h
 exact hK _ _ _ _ (hS.pick (A:=[_,_]) [0] rfl)
theorem wk_r02_Float {q0 u0 u1 u2} (hS:Ho w0 w L)  (h:T_r02_Float (nf q0)=some (u0,u1,u2)) (hK:∀ (a1:OA) (n1 c1:Nat) (w1:World),Ho w0 w1 ((sl a1 n1 c1 (List.map (Value.int .u64) u1) N.t_uint64)::L)→K (.agg #[.bool u0,.slice a1 n1 c1,.int .i64 u2]) w1):CallsX P N.f_r02_Float #[.float .f64 q0] w K:=by
 refine H.r02_Float q0 w _ ?_
 unfold S_r02_Float
 unfold T_r02_Float at h
 try dsimp only
 refine newM_s hS ?_;intro r1 w hS
 obtain ⟨⟨t1,t2,t3,t4⟩,ho1,h⟩:=bnd h
 refine wk_r01_Split H hS  ho1 ?_;clear hS ho1;rintro w hS
 refine ⟨_,_,_,_,rfl,?_⟩
 refine newM_s hS ?_;intro r2 w hS
 refine stc_s hS rfl rfl ?_;intro w hS
 refine stc_s hS rfl rfl ?_;intro w hS
 refine stc_s hS rfl rfl ?_;intro w hS
 refine ⟨_,hS.cel mp0 rfl,_,hS.cel mp0 rfl,_,hS.cel mp0 rfl,?_⟩
 refine drM_s hS ?_;intro w hS
 obtain ⟨t5,ht5,h⟩:=bnd h
 refine wk_r02_NatOf H hS  ht5 ?_;rintro a3 m3 c3 w hS
 refine ⟨_,_,_,rfl,?_⟩
 refine ⟨(hS.cel mp1 rfl),?_⟩
 refine ⟨(hS.cel mp1 rfl),?_⟩
 refine drM_s hS ?_;intro w hS
 replace hS:=ro2 hS
 refine stc_s hS rfl rfl ?_;intro w hS
 refine stc_s hS rfl rfl ?_;intro w hS
 refine stc_s hS rfl rfl ?_;intro w hS
 refine drM_s hS ?_;intro w hS
 refine ⟨_,hS.cel mp0 rfl,_,_,_,hS.cel mp0 rfl,_,hS.cel mp0 rfl,?_⟩
 cases some_inj h
 exact hK _ _ _ _ (hS.pick (A:=[_,_,_]) [1] rfl)
theorem wk_r02_low {q0 qh qn l0 u0b} (hS:Ho w0 w L) (qw:EU L l0 q0 qh qn) (h:T_r02_low l0=some u0b) (hK:∀ w1,Ho w0 w1 L→K (.slice (slBase q0 0 qn 1) u0b.toNat qn) w1):CallsX P N.f_r02_low #[.slice q0 qh qn] w K:=by
 refine H.r02_low q0 qh qn w _ ?_
 unfold S_r02_low
 unfold T_r02_low at h
 try dsimp only
 obtain ⟨t1,ht1,h⟩:=bnd h
 obtain rfl:=lenE ht1 (qw.now (fun _ h=>h) hS)
 obtain ⟨o1,h1,c1⟩:=bnd h
 refine cutM_i (fun s w=>∃ (t2:Int),t2=o1∧s=(t2,())∧Ho w0 w L) (fun J1 hJ1=>?_) ?_
 ·
  have h:=h1
  clear h1
  refine iter_sim (fun s w t=>∃ (t3:Int),t3=t∧s=(t3,())∧Ho w0 w L) ?_ h ⟨_,rfl,rfl,hS⟩
  clear h hS
  rintro s w t X q ⟨t3,rfl,rfl,hS⟩ h hX hO
  unfold T_r02_low_b2 at h
  try dsimp only
  refine cond_s h ?_ ?_<;>intro hc h
  ·
   obtain ⟨t4,ht4,h⟩:=bnd h
   obtain ⟨q2x,qy,q2r⟩:=atE ht4
   refine idx_s (qw.now (fun _ h=>h) hS) q2x qy q2r ?_;intro b3 hb3
   refine ⟨_,rd_get (qw.now (fun _ h=>h) hS) hb3 q2x,?_⟩
   refine cond_s h ?_ ?_<;>intro hc h
   ·
    obtain rfl:=some_inj h
    exact hX _ rfl _ _ ⟨_,rfl,rfl,hS⟩
   obtain rfl:=some_inj h
   have h:=congrArg some (hO _ rfl)
   exact hJ1 _ _ ⟨_,some_inj h,rfl,hS⟩
  obtain rfl:=some_inj h
  have h:=congrArg some (hO _ rfl)
  exact hJ1 _ _ ⟨_,some_inj h,rfl,hS⟩
 clear h1 hS
 rintro s w ⟨t2,rfl,rfl,hS⟩
 have h:=c1
 clear c1
 try dsimp only
 obtain ⟨t5,ht5,h⟩:=bnd h
 obtain ⟨rfl,zj,ge,gf⟩:=subE ht5
 have gg:=(qw.now (fun _ h=>h) hS).hiCap gf
 refine ⟨ge,gg,?_⟩
 cases some_inj h
 exact hK _ hS
theorem wk_r02_halves {q0 qh qn l0 u0} (hS:Ho w0 w L) (qw:EU L l0 q0 qh qn) (h:T_r02_halves l0=some u0) (hK:∀ (a0:OA) (n0 c0:Nat) (w1:World),Ho w0 w1 ((sl a0 n0 c0 (List.map (Value.int .u64) u0) N.t_uint64)::L)→K (.slice a0 n0 c0) w1):CallsX P N.f_r02_halves #[.slice q0 qh qn] w K:=by
 refine H.r02_halves q0 qh qn w _ ?_
 unfold S_r02_halves
 unfold T_r02_halves at h
 try dsimp only
 obtain ⟨o4,h4,c4⟩:=bnd h
 refine cutM_i (fun s w=>∃ (a1:OA) (m2:Nat) (c3:Nat) (t1:List Int),t1=o4∧s=((a1,m2,c3),())∧Ho w0 w ((sl a1 m2 c3 (List.map (Value.int .u64) t1) N.t_uint64)::L)) (fun J4 hJ4=>?_) ?_
 ·
  have h:=h4
  clear h4
  replace hS:=hS.none (α:=Int) (enc:=(Value.int .u64)) (t:=N.t_uint64)
  refine iter_sim (fun s w t=>∃ (t2:Int) (a5:OA) (m6:Nat) (c7:Nat) (t3:List Int),(t2,t3)=t∧s=((a5,m6,c7),t2,())∧Ho w0 w ((sl a5 m6 c7 (List.map (Value.int .u64) t3) N.t_uint64)::L)) ?_ h ⟨_,_,_,_,_,rfl,rfl,hS⟩
  clear h hS
  rintro s w t X q ⟨t2,a5,m6,c7,t3,rfl,rfl,hS⟩ h hX hO
  unfold T_r02_halves_b2 at h
  try dsimp only
  obtain ⟨t4,ht4,h⟩:=bnd h
  obtain rfl:=lenE ht4 ((qw.mono tl1).now (fun _ h=>h) hS)
  refine cond_s h ?_ ?_<;>intro hc h
  ·
   obtain ⟨t5,ht5,h⟩:=bnd h
   obtain ⟨q8x,yj,q8r⟩:=atE ht5
   refine idx_s ((qw.mono tl1).now (fun _ h=>h) hS) q8x yj q8r ?_;intro b9 hb9
   refine ⟨_,rd_get ((qw.mono tl1).now (fun _ h=>h) hS) hb9 q8x,?_⟩
   refine ⟨by decide,?_⟩
   obtain ⟨t6,ht6,h⟩:=bnd h
   obtain ⟨q10x,yl,q10r⟩:=atE ht6
   refine idx_s ((qw.mono tl1).now (fun _ h=>h) hS) q10x yl q10r ?_;intro b11 hb11
   refine ⟨_,rd_get ((qw.mono tl1).now (fun _ h=>h) hS) hb11 q10x,?_⟩
   refine ⟨by decide,?_⟩
   refine drM_s hS ?_;intro w hS
   obtain ⟨t7,ht7,h⟩:=bnd h
   obtain rfl:([(t5.tmod 4294967296),(u64.wrap (t6.tdiv 4294967296))]:List Int)=t7:=some_inj ht7
   refine lit_s (ks:=[(t5.tmod 4294967296),(u64.wrap (t6.tdiv 4294967296))]) (enc:=(Value.int .u64)) (m:=2) hS rfl rfl ?_;intro r12 w hS
   refine drM_s hS ?_;intro w hS
   obtain ⟨t8,ht8,h⟩:=bnd h
   obtain ⟨rfl,kt8⟩:=appE ht8
   replace hS:=ro1 hS
   refine app_s hS kt8 ((Ent.sl mp1).now (fun _ h=>h) hS) (fun _=>rfl) rfl ?_;clear hS kt8;intro a13 c13 w hS
   refine drM_s hS ?_;intro w hS
   obtain rfl:=some_inj h
   exact hX _ rfl _ _ ⟨_,_,_,_,_,rfl,rfl,(hS.pick (A:=[_,_]) [0] rfl)⟩
  obtain rfl:=some_inj h
  have h:=congrArg some (hO _ rfl)
  exact hJ4 _ _ ⟨_,_,_,_,some_inj h,rfl,hS⟩
 clear h4 hS
 rintro s w ⟨a1,m2,c3,t1,rfl,rfl,hS⟩
 have h:=c4
 clear c4
 try dsimp only
 obtain ⟨t9,ht9,h⟩:=bnd h
 refine wk_r02_low H hS (Ent.sl mp0) ht9 ?_;rintro w hS
 refine ⟨_,_,_,rfl,?_⟩
 obtain ⟨t10,ht10,h⟩:=bnd h
 obtain ⟨rfl,zc,zd,jk⟩:=subE ht10
 have ze:=((Ent.sl mp0).now (fun _ h=>h) hS).hiCap jk
 replace hS:=Ho.cut hS jk
 cases some_inj h
 exact hK _ _ _ _ hS
theorem wk_r02_product {q0 qh qn l0 q1 qo qu l1 u0} (hS:Ho w0 w L) (qw:EU L l0 q0 qh qn) (qz:EU L l1 q1 qo qu) (h:T_r02_product l0 l1=some u0) (hK:∀ (a0:OA) (n0 c0:Nat) (w1:World),Ho w0 w1 ((sl a0 n0 c0 (List.map (Value.int .u64) u0) N.t_uint64)::L)→K (.slice a0 n0 c0) w1):CallsX P N.f_r02_product #[.slice q0 qh qn,.slice q1 qo qu] w K:=by
 refine H.r02_product q0 qh qn q1 qo qu w _ ?_
 unfold S_r02_product
 unfold T_r02_product at h
 try dsimp only
 obtain ⟨t1,ht1,h⟩:=bnd h
 obtain rfl:=lenE ht1 (qw.now (fun _ h=>h) hS)
 obtain ⟨t2,ht2,h⟩:=bnd h
 obtain rfl:=lenE ht2 (qz.now (fun _ h=>h) hS)
 obtain ⟨t3,ht3,h⟩:=bnd h
 obtain ⟨rfl,kt3⟩:=mkE ht3
 refine mk_s (enc:=(Value.int .u64)) hS kt3 rfl ?_;clear hS kt3;intro r1 w hS
 obtain ⟨o2,h2,c2⟩:=bnd h
 refine cutM_i (fun s w=>∃ (t4:List Int),t4=o2∧s=(())∧Ho w0 w ((sl (some ⟨r1,0,none⟩) (((i64.wrap ((qh:Int)+(qo:Int)))).toNat) (((i64.wrap ((qh:Int)+(qo:Int)))).toNat) (List.map (Value.int .u64) t4) N.t_uint64)::L)) (fun J2 hJ2=>?_) ?_
 ·
  have h:=h2
  clear h2
  refine iter_sim (fun s w t=>∃ (t5:Int) (t6:List Int),(t5,t6)=t∧s=(t5,())∧Ho w0 w ((sl (some ⟨r1,0,none⟩) (((i64.wrap ((qh:Int)+(qo:Int)))).toNat) (((i64.wrap ((qh:Int)+(qo:Int)))).toNat) (List.map (Value.int .u64) t6) N.t_uint64)::L)) ?_ h ⟨_,_,rfl,rfl,hS⟩
  clear h hS
  rintro s w t X q ⟨t5,t6,rfl,rfl,hS⟩ h hX hO
  unfold T_r02_product_b7 at h
  try dsimp only
  obtain ⟨t7,ht7,h⟩:=bnd h
  obtain rfl:=lenE ht7 ((qw.mono tl1).now (fun _ h=>h) hS)
  refine cond_s h ?_ ?_<;>intro hc h
  ·
   obtain ⟨o3,h3,c3⟩:=bnd h
   refine cutM_i (fun s w=>∃ (t8:Int) (t9:List Int),(t8,t9)=o3∧s=(t8,())∧Ho w0 w ((sl (some ⟨r1,0,none⟩) (((i64.wrap ((qh:Int)+(qo:Int)))).toNat) (((i64.wrap ((qh:Int)+(qo:Int)))).toNat) (List.map (Value.int .u64) t9) N.t_uint64)::L)) (fun J3 hJ3=>?_) ?_
   ·
    have h:=h3
    clear h3
    refine iter_sim (fun s w t=>∃ (t10:Int) (t11:Int) (t12:List Int),(t10,t11,t12)=t∧s=(t10,t11,())∧Ho w0 w ((sl (some ⟨r1,0,none⟩) (((i64.wrap ((qh:Int)+(qo:Int)))).toNat) (((i64.wrap ((qh:Int)+(qo:Int)))).toNat) (List.map (Value.int .u64) t12) N.t_uint64)::L)) ?_ h ⟨_,_,_,rfl,rfl,hS⟩
    clear h hS
    rintro s w t X q ⟨t10,t11,t12,rfl,rfl,hS⟩ h hX hO
    unfold T_r02_product_b9 at h
    try dsimp only
    obtain ⟨t13,ht13,h⟩:=bnd h
    obtain rfl:=lenE ht13 ((qz.mono tl1).now (fun _ h=>h) hS)
    refine cond_s h ?_ ?_<;>intro hc h
    ·
     obtain ⟨t14,ht14,h⟩:=bnd h
     obtain ⟨q4x,yv,q4r⟩:=atE ht14
     refine idx_s ((qw.mono tl1).now (fun _ h=>h) hS) q4x yv q4r ?_;intro b5 hb5
     refine ⟨_,rd_get ((qw.mono tl1).now (fun _ h=>h) hS) hb5 q4x,?_⟩
     obtain ⟨t15,ht15,h⟩:=bnd h
     obtain ⟨q6x,yi,q6r⟩:=atE ht15
     refine idx_s ((qz.mono tl1).now (fun _ h=>h) hS) q6x yi q6r ?_;intro b7 hb7
     refine ⟨_,rd_get ((qz.mono tl1).now (fun _ h=>h) hS) hb7 q6x,?_⟩
     obtain ⟨t16,ht16,h⟩:=bnd h
     obtain ⟨q8x,yj,q8r⟩:=atE ht16
     refine idy_s ((Ent.sl mp0).now (fun _ h=>h) hS) q8x yj q8r ?_
     refine ⟨_,rd_get ((Ent.sl mp0).now (fun _ h=>h) hS) rfl q8x,?_⟩
     refine drM_s hS ?_;intro w hS
     refine ⟨by decide,?_⟩
     obtain ⟨t17,ht17,h⟩:=bnd h
     obtain ⟨q10x,yl,q10r⟩:=atE ht17
     refine idy_s ((Ent.sl mp0).now (fun _ h=>h) hS) q10x yl q10r ?_
     obtain ⟨t18,ht18,h⟩:=bnd h
     obtain rfl:=some_inj ht18
     refine sto_s hS rfl q10r ?_;intro w hS
     refine ⟨by decide,?_⟩
     obtain rfl:=some_inj h
     exact hX _ rfl _ _ ⟨_,_,_,rfl,rfl,hS⟩
    obtain rfl:=some_inj h
    have h:=congrArg some (hO _ rfl)
    exact hJ3 _ _ ⟨_,_,some_inj h,rfl,hS⟩
   clear h3 hS
   rintro s w ⟨t8,t9,rfl,rfl,hS⟩
   have h:=c3
   clear c3
   try dsimp only
   obtain ⟨t19,ht19,h⟩:=bnd h
   obtain rfl:=lenE ht19 ((qz.mono tl1).now (fun _ h=>h) hS)
   obtain ⟨t20,ht20,h⟩:=bnd h
   obtain ⟨q12x,jv,q12r⟩:=atE ht20
   refine idy_s ((Ent.sl mp0).now (fun _ h=>h) hS) q12x jv q12r ?_
   obtain ⟨t21,ht21,h⟩:=bnd h
   obtain rfl:=some_inj ht21
   refine sto_s hS rfl q12r ?_;intro w hS
   obtain rfl:=some_inj h
   exact hX _ rfl _ _ ⟨_,_,rfl,rfl,hS⟩
  obtain rfl:=some_inj h
  have h:=congrArg some (hO _ rfl)
  exact hJ2 _ _ ⟨_,some_inj h,rfl,hS⟩
 clear h2 hS
 rintro s w ⟨t4,rfl,rfl,hS⟩
 have h:=c2
 clear c2
 try dsimp only
 obtain ⟨t22,ht22,h⟩:=bnd h
 refine wk_r02_low H hS (Ent.sl mp0) ht22 ?_;rintro w hS
 refine ⟨_,_,_,rfl,?_⟩
 obtain ⟨t23,ht23,h⟩:=bnd h
 obtain ⟨rfl,zc,zd,jk⟩:=subE ht23
 have ze:=((Ent.sl mp0).now (fun _ h=>h) hS).hiCap jk
 replace hS:=Ho.cut hS jk
 cases some_inj h
 exact hK _ _ _ _ hS
theorem wk_r02_limbs {q0 qh qn l0 u0} (hS:Ho w0 w L) (qw:EU L l0 q0 qh qn) (h:T_r02_limbs l0=some u0) (hK:∀ (a0:OA) (n0 c0:Nat) (w1:World),Ho w0 w1 ((sl a0 n0 c0 (List.map (Value.int .u64) u0) N.t_uint64)::L)→K (.slice a0 n0 c0) w1):CallsX P N.f_r02_limbs #[.slice q0 qh qn] w K:=by
 refine H.r02_limbs q0 qh qn w _ ?_
 unfold S_r02_limbs
 unfold T_r02_limbs at h
 try dsimp only
 obtain ⟨o4,h4,c4⟩:=bnd h
 refine cutM_i (fun s w=>∃ (a1:OA) (m2:Nat) (c3:Nat) (t1:List Int),t1=o4∧s=((a1,m2,c3),())∧Ho w0 w ((sl a1 m2 c3 (List.map (Value.int .u64) t1) N.t_uint64)::L)) (fun J4 hJ4=>?_) ?_
 ·
  have h:=h4
  clear h4
  replace hS:=hS.none (α:=Int) (enc:=(Value.int .u64)) (t:=N.t_uint64)
  refine iter_sim (fun s w t=>∃ (t2:Int) (a5:OA) (m6:Nat) (c7:Nat) (t3:List Int),(t2,t3)=t∧s=((a5,m6,c7),t2,())∧Ho w0 w ((sl a5 m6 c7 (List.map (Value.int .u64) t3) N.t_uint64)::L)) ?_ h ⟨_,_,_,_,_,rfl,rfl,hS⟩
  clear h hS
  rintro s w t X q ⟨t2,a5,m6,c7,t3,rfl,rfl,hS⟩ h hX hO
  unfold T_r02_limbs_b2 at h
  try dsimp only
  obtain ⟨t4,ht4,h⟩:=bnd h
  obtain rfl:=lenE ht4 ((qw.mono tl1).now (fun _ h=>h) hS)
  refine cond_s h ?_ ?_<;>intro hc h
  ·
   obtain ⟨t5,ht5,h⟩:=bnd h
   obtain ⟨q8x,yj,q8r⟩:=atE ht5
   refine idx_s ((qw.mono tl1).now (fun _ h=>h) hS) q8x yj q8r ?_;intro b9 hb9
   refine ⟨_,rd_get ((qw.mono tl1).now (fun _ h=>h) hS) hb9 q8x,?_⟩
   obtain ⟨t6,ht6,h⟩:=bnd h
   obtain rfl:=lenE ht6 ((qw.mono tl1).now (fun _ h=>h) hS)
   obtain ⟨o10,h10,c10⟩:=bnd h
   refine cutM_i (fun s w=>∃ (t7:Int),t7=o10∧s=(t7,())∧Ho w0 w ((sl a5 m6 c7 (List.map (Value.int .u64) t3) N.t_uint64)::L)) (fun J10 hJ10=>?_) ?_
   ·
    have h:=h10
    clear h10
    refine cond_s h ?_ ?_<;>intro hc h
    ·
     obtain ⟨t8,ht8,h⟩:=bnd h
     obtain ⟨q11x,yr,q11r⟩:=atE ht8
     refine idx_s ((qw.mono tl1).now (fun _ h=>h) hS) q11x yr q11r ?_;intro b12 hb12
     refine ⟨_,rd_get ((qw.mono tl1).now (fun _ h=>h) hS) hb12 q11x,?_⟩
     exact hJ10 _ _ ⟨_,some_inj h,rfl,hS⟩
    exact hJ10 _ _ ⟨_,some_inj h,rfl,hS⟩
   clear h10 hS
   rintro s w ⟨t7,rfl,rfl,hS⟩
   have h:=c10
   clear c10
   try dsimp only
   obtain ⟨t9,ht9,h⟩:=bnd h
   obtain rfl:([t7]:List Int)=t9:=some_inj ht9
   refine lit_s (ks:=[t7]) (enc:=(Value.int .u64)) (m:=1) hS rfl rfl ?_;intro r13 w hS
   obtain ⟨t10,ht10,h⟩:=bnd h
   obtain ⟨rfl,kt10⟩:=appE ht10
   replace hS:=ro1 hS
   refine app_s hS kt10 ((Ent.sl mp1).now (fun _ h=>h) hS) (fun _=>rfl) rfl ?_;clear hS kt10;intro a14 c14 w hS
   obtain rfl:=some_inj h
   exact hX _ rfl _ _ ⟨_,_,_,_,_,rfl,rfl,(hS.pick (A:=[_,_]) [0] rfl)⟩
  obtain rfl:=some_inj h
  have h:=congrArg some (hO _ rfl)
  exact hJ4 _ _ ⟨_,_,_,_,some_inj h,rfl,hS⟩
 clear h4 hS
 rintro s w ⟨a1,m2,c3,t1,rfl,rfl,hS⟩
 have h:=c4
 clear c4
 try dsimp only
 obtain ⟨t11,ht11,h⟩:=bnd h
 refine wk_r02_NatTrim H hS (Ent.sl mp0) ht11 ?_;rintro a15 m15 c15 w hS
 refine ⟨_,_,_,rfl,?_⟩
 cases some_inj h
 exact hK _ _ _ _ (hS.pick (A:=[_,_]) [0] rfl)
theorem wk_r02_NatMul {q0 qh qn l0 q1 qo qu l1 u0} (hS:Ho w0 w L) (qw:EU L l0 q0 qh qn) (qz:EU L l1 q1 qo qu) (h:T_r02_NatMul l0 l1=some u0) (hK:∀ (a0:OA) (n0 c0:Nat) (w1:World),Ho w0 w1 ((sl a0 n0 c0 (List.map (Value.int .u64) u0) N.t_uint64)::L)→K (.slice a0 n0 c0) w1):CallsX P N.f_r02_NatMul #[.slice q0 qh qn,.slice q1 qo qu] w K:=by
 refine H.r02_NatMul q0 qh qn q1 qo qu w _ ?_
 unfold S_r02_NatMul
 unfold T_r02_NatMul at h
 try dsimp only
 obtain ⟨t1,ht1,h⟩:=bnd h
 refine wk_r02_halves H hS qw ht1 ?_;rintro a1 m1 c1 w hS
 refine ⟨_,_,_,rfl,?_⟩
 obtain ⟨t2,ht2,h⟩:=bnd h
 refine wk_r02_halves H hS (qz.mono tl1) ht2 ?_;rintro a2 m2 c2 w hS
 refine ⟨_,_,_,rfl,?_⟩
 obtain ⟨t3,ht3,h⟩:=bnd h
 refine wk_r02_product H hS (Ent.sl mp1) (Ent.sl mp0) ht3 ?_;rintro a3 m3 c3 w hS
 refine ⟨_,_,_,rfl,?_⟩
 obtain ⟨t4,ht4,h⟩:=bnd h
 refine wk_r02_limbs H hS (Ent.sl mp0) ht4 ?_;rintro a4 m4 c4 w hS
 refine ⟨_,_,_,rfl,?_⟩
 cases some_inj h
 exact hK _ _ _ _ (hS.pick (A:=[_,_,_,_]) [0] rfl)
theorem wk_r02_Times {qa qc qd qf l0_1 qe ql qk qi qj l1_1 qr u0 u1 u2} (hS:Ho w0 w L) (qm:EU L l0_1 qc qd qf) (qv:EU L l1_1 qk qi qj) (h:T_r02_Times qa l0_1 qe ql l1_1 qr=some (u0,u1,u2)) (hK:∀ (a1:OA) (n1 c1:Nat) (w1:World),Ho w0 w1 ((sl a1 n1 c1 (List.map (Value.int .u64) u1) N.t_uint64)::L)→K (.agg #[.bool u0,.slice a1 n1 c1,.int .i64 u2]) w1):CallsX P N.f_r02_Times #[.agg #[.bool qa,.slice qc qd qf,.int .i64 qe],.agg #[.bool ql,.slice qk qi qj,.int .i64 qr]] w K:=by
 refine H.r02_Times qa qc qd qf qe ql qk qi qj qr w _ ?_
 unfold S_r02_Times
 unfold T_r02_Times at h
 try dsimp only
 refine newM_s hS ?_;intro r1 w hS
 refine newM_s hS ?_;intro r2 w hS
 refine newM_s hS ?_;intro r3 w hS
 refine ⟨_,hS.cel mp2 rfl,_,hS.cel mp1 rfl,_,_,_,hS.cel mp2 rfl,_,_,_,hS.cel mp1 rfl,_,hS.cel mp2 rfl,_,hS.cel mp1 rfl,?_⟩
 refine drM_s hS ?_;intro w hS
 obtain ⟨t1,ht1,h⟩:=bnd h
 refine wk_r02_NatMul H hS (qm.mono tl3) (qv.mono tl3) ht1 ?_;rintro a4 m4 c4 w hS
 refine ⟨_,_,_,rfl,?_⟩
 refine ⟨(hS.cel mp2 rfl),?_⟩
 refine ⟨(hS.cel mp3 rfl),?_⟩
 refine ⟨(hS.cel mp2 rfl),?_⟩
 refine ⟨(hS.cel mp3 rfl),?_⟩
 refine drM_s hS ?_;intro w hS
 replace hS:=ro1 hS
 refine stc_s hS rfl rfl ?_;intro w hS
 refine stc_s hS rfl rfl ?_;intro w hS
 refine stc_s hS rfl rfl ?_;intro w hS
 refine drM_s hS ?_;intro w hS
 refine ⟨_,hS.cel mp0 rfl,_,_,_,hS.cel mp0 rfl,_,hS.cel mp0 rfl,?_⟩
 cases some_inj h
 exact hK _ _ _ _ (hS.pick (A:=[_,_,_,_]) [1] rfl)
theorem wk_r02_Minus {qa qc qd qf l0_1 qe u0 u1 u2} (hS:Ho w0 w L) (qm:EU L l0_1 qc qd qf) (h:T_r02_Minus qa l0_1 qe=some (u0,u1,u2)) (hK:∀ w1,l0_1=u1→Ho w0 w1 L→K (.agg #[.bool u0,.slice qc qd qf,.int .i64 u2]) w1):CallsX P N.f_r02_Minus #[.agg #[.bool qa,.slice qc qd qf,.int .i64 qe]] w K:=by
 refine H.r02_Minus qa qc qd qf qe w _ ?_
 unfold S_r02_Minus
 unfold T_r02_Minus at h
 try dsimp only
 refine newM_s hS ?_;intro r1 w hS
 refine newM_s hS ?_;intro r2 w hS
 refine ⟨_,hS.cel mp1 rfl,_,_,_,hS.cel mp1 rfl,_,hS.cel mp1 rfl,?_⟩
 refine stc_s hS rfl rfl ?_;intro w hS
 refine stc_s hS rfl rfl ?_;intro w hS
 refine stc_s hS rfl rfl ?_;intro w hS
 refine ⟨_,hS.cel mp0 rfl,_,_,_,hS.cel mp0 rfl,_,hS.cel mp0 rfl,?_⟩
 cases some_inj h
 exact hK _ rfl (hS.pick (A:=[_,_]) [] rfl)
theorem wk_r02_NatBits {q0 qh qn l0 u0} (hS:Ho w0 w L) (qw:EU L l0 q0 qh qn) (h:T_r02_NatBits l0=some u0) (hK:∀ w1,Ho w0 w1 L→K (.int .i64 u0) w1):CallsX P N.f_r02_NatBits #[.slice q0 qh qn] w K:=by
 refine H.r02_NatBits q0 qh qn w _ ?_
 unfold S_r02_NatBits
 unfold T_r02_NatBits at h
 try dsimp only
 obtain ⟨t1,ht1,h⟩:=bnd h
 refine wk_r02_NatTrim H hS qw ht1 ?_;rintro a1 m1 c1 w hS
 refine ⟨_,_,_,rfl,?_⟩
 obtain ⟨t2,ht2,h⟩:=bnd h
 obtain rfl:=lenE ht2 ((Ent.sl mp0).now (fun _ h=>h) hS)
 refine cond_s h ?_ ?_<;>intro hc h
 ·
  cases some_inj h
  exact hK _ (hS.pick (A:=[_]) [] rfl)
 obtain ⟨t3,ht3,h⟩:=bnd h
 obtain rfl:=lenE ht3 ((Ent.sl mp0).now (fun _ h=>h) hS)
 obtain ⟨t4,ht4,h⟩:=bnd h
 obtain rfl:=lenE ht4 ((Ent.sl mp0).now (fun _ h=>h) hS)
 obtain ⟨t5,ht5,h⟩:=bnd h
 obtain ⟨q2x,qy,q2r⟩:=atE ht5
 refine idx_s ((Ent.sl mp0).now (fun _ h=>h) hS) q2x qy q2r ?_;intro b3 hb3
 refine ⟨_,rd_get ((Ent.sl mp0).now (fun _ h=>h) hS) hb3 q2x,?_⟩
 obtain ⟨o4,h4,c4⟩:=bnd h
 refine cutM_i (fun s w=>∃ (t6:Int),t6=o4∧s=(t6,())∧Ho w0 w L) (fun J4 hJ4=>?_) ?_
 ·
  have h:=h4
  clear h4
  refine iter_sim (fun s w t=>∃ (t7:Int) (t8:Int),(t7,t8)=t∧s=(t7,t8,())∧Ho w0 w L) ?_ h ⟨_,_,rfl,rfl,(hS.pick (A:=[_]) [] rfl)⟩
  clear h hS
  rintro s w t X q ⟨t7,t8,rfl,rfl,hS⟩ h hX hO
  unfold T_r02_NatBits_b2 at h
  try dsimp only
  refine cond_s h ?_ ?_<;>intro hc h
  ·
   refine ⟨by decide,?_⟩
   obtain rfl:=some_inj h
   exact hX _ rfl _ _ ⟨_,_,rfl,rfl,hS⟩
  obtain rfl:=some_inj h
  have h:=congrArg some (hO _ rfl)
  exact hJ4 _ _ ⟨_,some_inj h,rfl,hS⟩
 clear h4 hS
 rintro s w ⟨t6,rfl,rfl,hS⟩
 have h:=c4
 clear c4
 try dsimp only
 cases some_inj h
 exact hK _ hS
theorem wk_r02_Num_Zero {qa qc qd qf l0_1 qe u0} (hS:Ho w0 w L) (qm:EU L l0_1 qc qd qf) (h:T_r02_Num_Zero qa l0_1 qe=some u0) (hK:∀ w1,Ho w0 w1 L→K (.bool u0) w1):CallsX P N.f_r02_Num_Zero #[.agg #[.bool qa,.slice qc qd qf,.int .i64 qe]] w K:=by
 refine H.r02_Num_Zero qa qc qd qf qe w _ ?_
 unfold S_r02_Num_Zero
 unfold T_r02_Num_Zero at h
 try dsimp only
 refine newM_s hS ?_;intro r1 w hS
 refine ⟨_,_,_,hS.cel mp0 rfl,?_⟩
 obtain ⟨t1,ht1,h⟩:=bnd h
 refine wk_r02_NatBits H hS (qm.mono tl1) ht1 ?_;rintro w hS
 refine ⟨_,rfl,?_⟩
 cases some_inj h
 exact hK _ (hS.pick (A:=[_]) [] rfl)
theorem wk_r02_NatUp {q0 qh qn l0 q1 u0} (hS:Ho w0 w L) (qw:EU L l0 q0 qh qn) (h:T_r02_NatUp l0 q1=some u0) (hK:∀ (a0:OA) (n0 c0:Nat) (w1:World),Ho w0 w1 ((sl a0 n0 c0 (List.map (Value.int .u64) u0) N.t_uint64)::L)→K (.slice a0 n0 c0) w1):CallsX P N.f_r02_NatUp #[.slice q0 qh qn,.int .i64 q1] w K:=by
 refine H.r02_NatUp q0 qh qn q1 w _ ?_
 unfold S_r02_NatUp
 unfold T_r02_NatUp at h
 try dsimp only
 obtain ⟨t1,ht1,h⟩:=bnd h
 refine wk_r02_halves H hS qw ht1 ?_;rintro a1 m1 c1 w hS
 refine ⟨_,_,_,rfl,?_⟩
 obtain ⟨t2,ht2,h⟩:=bnd h
 obtain rfl:=lenE ht2 ((Ent.sl mp0).now (fun _ h=>h) hS)
 refine cond_s h ?_ ?_<;>intro hc h
 ·
  replace hS:=hS.none (α:=Int) (enc:=(Value.int .u64)) (t:=N.t_uint64)
  cases some_inj h
  exact hK _ _ _ _ (hS.pick (A:=[_,_]) [0] rfl)
 refine ⟨by decide,?_⟩
 obtain ⟨t3,ht3,h⟩:=bnd h
 obtain ⟨rfl,kt3⟩:=mkE ht3
 refine mk_s (enc:=(Value.int .u64)) hS kt3 rfl ?_;clear hS kt3;intro r2 w hS
 obtain ⟨o3,h3,c3⟩:=bnd h
 refine cutM_i (fun s w=>∃ (t4:Int),t4=o3∧s=(t4,())∧Ho w0 w ((sl (some ⟨r2,0,none⟩) (((i64.wrap (q1.tdiv 32))).toNat) (((i64.wrap (q1.tdiv 32))).toNat) (List.map (Value.int .u64) (List.replicate (((i64.wrap (q1.tdiv 32))).toNat) 0)) N.t_uint64)::(sl a1 m1 c1 (List.map (Value.int .u64) t1) N.t_uint64)::L)) (fun J3 hJ3=>?_) ?_
 ·
  have h:=h3
  clear h3
  refine iter_sim (fun s w t=>∃ (t5:Int) (t6:Int),(t5,t6)=t∧s=(t5,t6,())∧Ho w0 w ((sl (some ⟨r2,0,none⟩) (((i64.wrap (q1.tdiv 32))).toNat) (((i64.wrap (q1.tdiv 32))).toNat) (List.map (Value.int .u64) (List.replicate (((i64.wrap (q1.tdiv 32))).toNat) 0)) N.t_uint64)::(sl a1 m1 c1 (List.map (Value.int .u64) t1) N.t_uint64)::L)) ?_ h ⟨_,_,rfl,rfl,hS⟩
  clear h hS
  rintro s w t X q ⟨t5,t6,rfl,rfl,hS⟩ h hX hO
  unfold T_r02_NatUp_b2 at h
  try dsimp only
  refine ⟨by decide,?_⟩
  refine cond_s h ?_ ?_<;>intro hc h
  ·
   obtain rfl:=some_inj h
   exact hX _ rfl _ _ ⟨_,_,rfl,rfl,hS⟩
  obtain rfl:=some_inj h
  have h:=congrArg some (hO _ rfl)
  exact hJ3 _ _ ⟨_,some_inj h,rfl,hS⟩
 clear h3 hS
 rintro s w ⟨t4,rfl,rfl,hS⟩
 have h:=c3
 clear c3
 try dsimp only
 obtain ⟨o7,h7,c7⟩:=bnd h
 refine cutM_i (fun s w=>∃ (t7:Int) (a4:OA) (m5:Nat) (c6:Nat) (t8:List Int),(t7,t8)=o7∧s=((a4,m5,c6),t7,())∧Ho w0 w ((sl a4 m5 c6 (List.map (Value.int .u64) t8) N.t_uint64)::L)) (fun J7 hJ7=>?_) ?_
 ·
  have h:=h7
  clear h7
  refine iter_sim (fun s w t=>∃ (t9:Int) (t10:Int) (a8:OA) (m9:Nat) (c10:Nat) (t11:List Int),(t9,t10,t11)=t∧s=((a8,m9,c10),t9,t10,())∧Ho w0 w ((sl a1 m1 c1 (List.map (Value.int .u64) t1) N.t_uint64)::(sl a8 m9 c10 (List.map (Value.int .u64) t11) N.t_uint64)::L)) ?_ h ⟨_,_,_,_,_,_,rfl,rfl,(hS.pick (A:=[_,_]) [1,0] rfl)⟩
  clear h hS
  rintro s w t X q ⟨t9,t10,a8,m9,c10,t11,rfl,rfl,hS⟩ h hX hO
  unfold T_r02_NatUp_b4 at h
  try dsimp only
  obtain ⟨t12,ht12,h⟩:=bnd h
  obtain rfl:=lenE ht12 ((Ent.sl mp0).now (fun _ h=>h) hS)
  refine cond_s h ?_ ?_<;>intro hc h
  ·
   obtain ⟨t13,ht13,h⟩:=bnd h
   obtain ⟨q11x,yr,q11r⟩:=atE ht13
   refine idx_s ((Ent.sl mp0).now (fun _ h=>h) hS) q11x yr q11r ?_;intro b12 hb12
   refine ⟨_,rd_get ((Ent.sl mp0).now (fun _ h=>h) hS) hb12 q11x,?_⟩
   refine ⟨by decide,?_⟩
   obtain ⟨t14,ht14,h⟩:=bnd h
   obtain rfl:([((u64.wrap ((u64.wrap (t13*t4))+t9)).tmod 4294967296)]:List Int)=t14:=some_inj ht14
   refine lit_s (ks:=[((u64.wrap ((u64.wrap (t13*t4))+t9)).tmod 4294967296)]) (enc:=(Value.int .u64)) (m:=1) hS rfl rfl ?_;intro r13 w hS
   obtain ⟨t15,ht15,h⟩:=bnd h
   obtain ⟨rfl,kt15⟩:=appE ht15
   replace hS:=ro2 hS
   refine app_s hS kt15 ((Ent.sl mp1).now (fun _ h=>h) hS) (fun _=>rfl) rfl ?_;clear hS kt15;intro a14 c14 w hS
   refine ⟨by decide,?_⟩
   obtain rfl:=some_inj h
   exact hX _ rfl _ _ ⟨_,_,_,_,_,_,rfl,rfl,(hS.pick (A:=[_,_,_]) [2,0] rfl)⟩
  obtain rfl:=some_inj h
  have h:=congrArg some (hO _ rfl)
  obtain rfl:=some_inj h
  exact hJ7 _ _ ⟨_,_,_,_,_,rfl,rfl,(hS.pick (A:=[_,_]) [1] rfl)⟩
 clear h7 hS
 rintro s w ⟨t7,a4,m5,c6,t8,rfl,rfl,hS⟩
 have h:=c7
 clear c7
 try dsimp only
 obtain ⟨t16,ht16,h⟩:=bnd h
 obtain rfl:([t7]:List Int)=t16:=some_inj ht16
 refine lit_s (ks:=[t7]) (enc:=(Value.int .u64)) (m:=1) hS rfl rfl ?_;intro r15 w hS
 obtain ⟨t17,ht17,h⟩:=bnd h
 obtain ⟨rfl,kt17⟩:=appE ht17
 replace hS:=ro1 hS
 refine app_s hS kt17 ((Ent.sl mp1).now (fun _ h=>h) hS) (fun _=>rfl) rfl ?_;clear hS kt17;intro a16 c16 w hS
 obtain ⟨t18,ht18,h⟩:=bnd h
 refine wk_r02_limbs H hS (Ent.sl mp0) ht18 ?_;rintro a17 m17 c17 w hS
 refine ⟨_,_,_,rfl,?_⟩
 cases some_inj h
 exact hK _ _ _ _ (hS.pick (A:=[_,_,_]) [0] rfl)
theorem wk_r02_digit {q0 qh qn l0 q1 u0} (hS:Ho w0 w L) (qw:EU L l0 q0 qh qn) (h:T_r02_digit l0 q1=some u0) (hK:∀ w1,Ho w0 w1 L→K (.int .u64 u0) w1):CallsX P N.f_r02_digit #[.slice q0 qh qn,.int .i64 q1] w K:=by
 refine H.r02_digit q0 qh qn q1 w _ ?_
 unfold S_r02_digit
 unfold T_r02_digit at h
 try dsimp only
 obtain ⟨t1,ht1,h⟩:=bnd h
 obtain rfl:=lenE ht1 (qw.now (fun _ h=>h) hS)
 refine cond_s h ?_ ?_<;>intro hc h
 ·
  obtain ⟨t2,ht2,h⟩:=bnd h
  obtain ⟨q1x,qo,q1r⟩:=atE ht2
  refine idx_s (qw.now (fun _ h=>h) hS) q1x qo q1r ?_;intro b2 hb2
  refine ⟨_,rd_get (qw.now (fun _ h=>h) hS) hb2 q1x,?_⟩
  cases some_inj h
  exact hK _ hS
 cases some_inj h
 exact hK _ hS
theorem wk_r02_NatAdd {q0 qh qn l0 q1 qo qu l1 u0} (hS:Ho w0 w L) (qw:EU L l0 q0 qh qn) (qz:EU L l1 q1 qo qu) (h:T_r02_NatAdd l0 l1=some u0) (hK:∀ (a0:OA) (n0 c0:Nat) (w1:World),Ho w0 w1 ((sl a0 n0 c0 (List.map (Value.int .u64) u0) N.t_uint64)::L)→K (.slice a0 n0 c0) w1):CallsX P N.f_r02_NatAdd #[.slice q0 qh qn,.slice q1 qo qu] w K:=by
 refine H.r02_NatAdd q0 qh qn q1 qo qu w _ ?_
 unfold S_r02_NatAdd
 unfold T_r02_NatAdd at h
 try dsimp only
 obtain ⟨t1,ht1,h⟩:=bnd h
 refine wk_r02_halves H hS qw ht1 ?_;rintro a1 m1 c1 w hS
 refine ⟨_,_,_,rfl,?_⟩
 obtain ⟨t2,ht2,h⟩:=bnd h
 refine wk_r02_halves H hS (qz.mono tl1) ht2 ?_;rintro a2 m2 c2 w hS
 refine ⟨_,_,_,rfl,?_⟩
 obtain ⟨o6,h6,c6⟩:=bnd h
 refine cutM_i (fun s w=>∃ (a3:OA) (m4:Nat) (c5:Nat) (t3:List Int),t3=o6∧s=((a3,m4,c5),())∧Ho w0 w ((sl a3 m4 c5 (List.map (Value.int .u64) t3) N.t_uint64)::L)) (fun J6 hJ6=>?_) ?_
 ·
  have h:=h6
  clear h6
  replace hS:=hS.none (α:=Int) (enc:=(Value.int .u64)) (t:=N.t_uint64)
  refine iter_sim (fun s w t=>∃ (t4:Int) (t5:Int) (a7:OA) (m8:Nat) (c9:Nat) (t6:List Int),(t4,t5,t6)=t∧s=((a7,m8,c9),t4,t5,())∧Ho w0 w ((sl a2 m2 c2 (List.map (Value.int .u64) t2) N.t_uint64)::(sl a1 m1 c1 (List.map (Value.int .u64) t1) N.t_uint64)::(sl a7 m8 c9 (List.map (Value.int .u64) t6) N.t_uint64)::L)) ?_ h ⟨_,_,_,_,_,_,rfl,rfl,(hS.pick (A:=[_,_,_]) [1,1,0] rfl)⟩
  clear h hS
  rintro s w t X q ⟨t4,t5,a7,m8,c9,t6,rfl,rfl,hS⟩ h hX hO
  unfold T_r02_NatAdd_b2 at h
  try dsimp only
  obtain ⟨o10,h10,c10⟩:=bnd h
  refine cutM_i (fun s w=>∃ (t7:Bool),t7=o10∧s=(t7,())∧Ho w0 w ((sl a2 m2 c2 (List.map (Value.int .u64) t2) N.t_uint64)::(sl a1 m1 c1 (List.map (Value.int .u64) t1) N.t_uint64)::(sl a7 m8 c9 (List.map (Value.int .u64) t6) N.t_uint64)::L)) (fun J10 hJ10=>?_) ?_
  ·
   have h:=h10
   clear h10
   obtain ⟨t8,ht8,h⟩:=bnd h
   obtain rfl:=lenE ht8 ((Ent.sl mp1).now (fun _ h=>h) hS)
   refine cond_s h ?_ ?_<;>intro hc h
   ·
    obtain ⟨t9,ht9,h⟩:=bnd h
    obtain rfl:=lenE ht9 ((Ent.sl mp0).now (fun _ h=>h) hS)
    refine cond_s h ?_ ?_<;>intro hc h
    ·
     exact hJ10 _ _ ⟨_,some_inj h,rfl,hS⟩
    exact hJ10 _ _ ⟨_,some_inj h,rfl,hS⟩
   exact hJ10 _ _ ⟨_,some_inj h,rfl,hS⟩
  clear h10 hS
  rintro s w ⟨t7,rfl,rfl,hS⟩
  have h:=c10
  clear c10
  try dsimp only
  refine cond_s h ?_ ?_<;>intro hc h
  ·
   obtain ⟨t10,ht10,h⟩:=bnd h
   refine wk_r02_digit H hS (Ent.sl mp1) ht10 ?_;rintro w hS
   refine ⟨_,rfl,?_⟩
   obtain ⟨t11,ht11,h⟩:=bnd h
   refine wk_r02_digit H hS (Ent.sl mp0) ht11 ?_;rintro w hS
   refine ⟨_,rfl,?_⟩
   refine ⟨by decide,?_⟩
   obtain ⟨t12,ht12,h⟩:=bnd h
   obtain rfl:([((u64.wrap ((u64.wrap (t10+t11))+t4)).tmod 4294967296)]:List Int)=t12:=some_inj ht12
   refine lit_s (ks:=[((u64.wrap ((u64.wrap (t10+t11))+t4)).tmod 4294967296)]) (enc:=(Value.int .u64)) (m:=1) hS rfl rfl ?_;intro r11 w hS
   obtain ⟨t13,ht13,h⟩:=bnd h
   obtain ⟨rfl,kt13⟩:=appE ht13
   replace hS:=ro3 hS
   refine app_s hS kt13 ((Ent.sl mp1).now (fun _ h=>h) hS) (fun _=>rfl) rfl ?_;clear hS kt13;intro a12 c12 w hS
   refine ⟨by decide,?_⟩
   obtain rfl:=some_inj h
   exact hX _ rfl _ _ ⟨_,_,_,_,_,_,rfl,rfl,(hS.pick (A:=[_,_,_,_]) [2,2,0] rfl)⟩
  obtain rfl:=some_inj h
  have h:=congrArg some (hO _ rfl)
  obtain rfl:=some_inj h
  exact hJ6 _ _ ⟨_,_,_,_,rfl,rfl,(hS.pick (A:=[_,_,_]) [2] rfl)⟩
 clear h6 hS
 rintro s w ⟨a3,m4,c5,t3,rfl,rfl,hS⟩
 have h:=c6
 clear c6
 try dsimp only
 obtain ⟨t14,ht14,h⟩:=bnd h
 refine wk_r02_limbs H hS (Ent.sl mp0) ht14 ?_;rintro a13 m13 c13 w hS
 refine ⟨_,_,_,rfl,?_⟩
 cases some_inj h
 exact hK _ _ _ _ (hS.pick (A:=[_,_]) [0] rfl)
theorem wk_r02_NatCmp {q0 qh qn l0 q1 qo qu l1 u0} (hS:Ho w0 w L) (qw:EU L l0 q0 qh qn) (qz:EU L l1 q1 qo qu) (h:T_r02_NatCmp l0 l1=some u0) (hK:∀ w1,Ho w0 w1 L→K (.int .i64 u0) w1):CallsX P N.f_r02_NatCmp #[.slice q0 qh qn,.slice q1 qo qu] w K:=by
 refine H.r02_NatCmp q0 qh qn q1 qo qu w _ ?_
 unfold S_r02_NatCmp
 unfold T_r02_NatCmp at h
 try dsimp only
 obtain ⟨t1,ht1,h⟩:=bnd h
 refine wk_r02_NatTrim H hS qw ht1 ?_;rintro a1 m1 c1 w hS
 refine ⟨_,_,_,rfl,?_⟩
 obtain ⟨t2,ht2,h⟩:=bnd h
 refine wk_r02_NatTrim H hS (qz.mono tl1) ht2 ?_;rintro a2 m2 c2 w hS
 refine ⟨_,_,_,rfl,?_⟩
 obtain ⟨t3,ht3,h⟩:=bnd h
 obtain rfl:=lenE ht3 ((Ent.sl mp1).now (fun _ h=>h) hS)
 obtain ⟨t4,ht4,h⟩:=bnd h
 obtain rfl:=lenE ht4 ((Ent.sl mp0).now (fun _ h=>h) hS)
 refine cond_s h ?_ ?_<;>intro hc h
 ·
  obtain ⟨t5,ht5,h⟩:=bnd h
  obtain rfl:=lenE ht5 ((Ent.sl mp1).now (fun _ h=>h) hS)
  obtain ⟨t6,ht6,h⟩:=bnd h
  obtain rfl:=lenE ht6 ((Ent.sl mp0).now (fun _ h=>h) hS)
  refine cond_s h ?_ ?_<;>intro hc h
  ·
   cases some_inj h
   exact hK _ (hS.pick (A:=[_,_]) [] rfl)
  cases some_inj h
  exact hK _ (hS.pick (A:=[_,_]) [] rfl)
 obtain ⟨t7,ht7,h⟩:=bnd h
 obtain rfl:=lenE ht7 ((Ent.sl mp1).now (fun _ h=>h) hS)
 obtain ⟨o3,h3,c3⟩:=bnd h
 refine cutM_i (fun s w =>  .inl ()=o3∧s=(())∧Ho w0 w L) (fun J3 hJ3=>?_) ?_
 ·
  have h:=h3
  clear h3
  refine iter_sim (fun s w t=>∃ (t8:Int),t8=t∧s=(t8,())∧Ho w0 w ((sl a2 m2 c2 (List.map (Value.int .u64) t2) N.t_uint64)::(sl a1 m1 c1 (List.map (Value.int .u64) t1) N.t_uint64)::L)) ?_ h ⟨_,rfl,rfl,hS⟩
  clear h hS
  rintro s w t X q ⟨t8,rfl,rfl,hS⟩ h hX hO
  unfold T_r02_NatCmp_b2 at h
  try dsimp only
  refine cond_s h ?_ ?_<;>intro hc h
  ·
   obtain ⟨t9,ht9,h⟩:=bnd h
   obtain ⟨q4x,yv,q4r⟩:=atE ht9
   refine idx_s ((Ent.sl mp1).now (fun _ h=>h) hS) q4x yv q4r ?_;intro b5 hb5
   refine ⟨_,rd_get ((Ent.sl mp1).now (fun _ h=>h) hS) hb5 q4x,?_⟩
   obtain ⟨t10,ht10,h⟩:=bnd h
   obtain ⟨q6x,yi,q6r⟩:=atE ht10
   refine idx_s ((Ent.sl mp0).now (fun _ h=>h) hS) q6x yi q6r ?_;intro b7 hb7
   refine ⟨_,rd_get ((Ent.sl mp0).now (fun _ h=>h) hS) hb7 q6x,?_⟩
   refine drM_s hS ?_;intro w hS
   refine cond_s h ?_ ?_<;>intro hc h
   ·
    obtain rfl:=some_inj h
    have h:=congrArg some (hO _ rfl)
    obtain rfl:=some_inj h
    have h:=c3
    cases some_inj h
    exact hK _ (hS.pick (A:=[_,_]) [] rfl)
   obtain ⟨t11,ht11,h⟩:=bnd h
   obtain ⟨q8x,yj,q8r⟩:=atE ht11
   refine idx_s ((Ent.sl mp1).now (fun _ h=>h) hS) q8x yj q8r ?_;intro b9 hb9
   refine ⟨_,rd_get ((Ent.sl mp1).now (fun _ h=>h) hS) hb9 q8x,?_⟩
   obtain ⟨t12,ht12,h⟩:=bnd h
   obtain ⟨q10x,yl,q10r⟩:=atE ht12
   refine idx_s ((Ent.sl mp0).now (fun _ h=>h) hS) q10x yl q10r ?_;intro b11 hb11
   refine ⟨_,rd_get ((Ent.sl mp0).now (fun _ h=>h) hS) hb11 q10x,?_⟩
   refine drM_s hS ?_;intro w hS
   refine cond_s h ?_ ?_<;>intro hc h
   ·
    obtain rfl:=some_inj h
    have h:=congrArg some (hO _ rfl)
    obtain rfl:=some_inj h
    have h:=c3
    cases some_inj h
    exact hK _ (hS.pick (A:=[_,_]) [] rfl)
   obtain rfl:=some_inj h
   exact hX _ rfl _ _ ⟨_,rfl,rfl,hS⟩
  obtain rfl:=some_inj h
  have h:=congrArg some (hO _ rfl)
  obtain rfl:=some_inj h
  exact hJ3 _ _ ⟨rfl,rfl,(hS.pick (A:=[_,_]) [] rfl)⟩
 clear h3 hS
 rintro s w ⟨rfl,rfl,hS⟩
 have h:=c3
 clear c3
 try dsimp only
 cases some_inj h
 exact hK _ hS
theorem wk_r02_NatSub {q0 qh qn l0 q1 qo qu l1 u0} (hS:Ho w0 w L) (qw:EU L l0 q0 qh qn) (qz:EU L l1 q1 qo qu) (h:T_r02_NatSub l0 l1=some u0) (hK:∀ (a0:OA) (n0 c0:Nat) (w1:World),Ho w0 w1 ((sl a0 n0 c0 (List.map (Value.int .u64) u0) N.t_uint64)::L)→K (.slice a0 n0 c0) w1):CallsX P N.f_r02_NatSub #[.slice q0 qh qn,.slice q1 qo qu] w K:=by
 refine H.r02_NatSub q0 qh qn q1 qo qu w _ ?_
 unfold S_r02_NatSub
 unfold T_r02_NatSub at h
 try dsimp only
 obtain ⟨t1,ht1,h⟩:=bnd h
 refine wk_r02_halves H hS qw ht1 ?_;rintro a1 m1 c1 w hS
 refine ⟨_,_,_,rfl,?_⟩
 obtain ⟨t2,ht2,h⟩:=bnd h
 refine wk_r02_halves H hS (qz.mono tl1) ht2 ?_;rintro a2 m2 c2 w hS
 refine ⟨_,_,_,rfl,?_⟩
 obtain ⟨o6,h6,c6⟩:=bnd h
 refine cutM_i (fun s w=>∃ (a3:OA) (m4:Nat) (c5:Nat) (t3:List Int),t3=o6∧s=((a3,m4,c5),())∧Ho w0 w ((sl a3 m4 c5 (List.map (Value.int .u64) t3) N.t_uint64)::L)) (fun J6 hJ6=>?_) ?_
 ·
  have h:=h6
  clear h6
  replace hS:=hS.none (α:=Int) (enc:=(Value.int .u64)) (t:=N.t_uint64)
  refine iter_sim (fun s w t=>∃ (t4:Int) (t5:Int) (a7:OA) (m8:Nat) (c9:Nat) (t6:List Int),(t4,t5,t6)=t∧s=((a7,m8,c9),t4,t5,())∧Ho w0 w ((sl a2 m2 c2 (List.map (Value.int .u64) t2) N.t_uint64)::(sl a1 m1 c1 (List.map (Value.int .u64) t1) N.t_uint64)::(sl a7 m8 c9 (List.map (Value.int .u64) t6) N.t_uint64)::L)) ?_ h ⟨_,_,_,_,_,_,rfl,rfl,(hS.pick (A:=[_,_,_]) [1,1,0] rfl)⟩
  clear h hS
  rintro s w t X q ⟨t4,t5,a7,m8,c9,t6,rfl,rfl,hS⟩ h hX hO
  unfold T_r02_NatSub_b2 at h
  try dsimp only
  obtain ⟨t7,ht7,h⟩:=bnd h
  obtain rfl:=lenE ht7 ((Ent.sl mp1).now (fun _ h=>h) hS)
  refine cond_s h ?_ ?_<;>intro hc h
  ·
   obtain ⟨t8,ht8,h⟩:=bnd h
   obtain ⟨q10x,yl,q10r⟩:=atE ht8
   refine idx_s ((Ent.sl mp1).now (fun _ h=>h) hS) q10x yl q10r ?_;intro b11 hb11
   refine ⟨_,rd_get ((Ent.sl mp1).now (fun _ h=>h) hS) hb11 q10x,?_⟩
   refine drM_s hS ?_;intro w hS
   obtain ⟨t9,ht9,h⟩:=bnd h
   refine wk_r02_digit H hS (Ent.sl mp0) ht9 ?_;rintro w hS
   refine ⟨_,rfl,?_⟩
   refine ⟨rd_get ((Ent.sl mp1).now (fun _ h=>h) hS) hb11 q10x,?_⟩
   refine drM_s hS ?_;intro w hS
   refine ⟨by decide,?_⟩
   obtain ⟨t10,ht10,h⟩:=bnd h
   obtain rfl:([((u64.wrap ((u64.wrap ((u64.wrap (4294967296+t8))-t9))-t4)).tmod 4294967296)]:List Int)=t10:=some_inj ht10
   refine lit_s (ks:=[((u64.wrap ((u64.wrap ((u64.wrap (4294967296+t8))-t9))-t4)).tmod 4294967296)]) (enc:=(Value.int .u64)) (m:=1) hS rfl rfl ?_;intro r12 w hS
   obtain ⟨t11,ht11,h⟩:=bnd h
   obtain ⟨rfl,kt11⟩:=appE ht11
   replace hS:=ro3 hS
   refine app_s hS kt11 ((Ent.sl mp1).now (fun _ h=>h) hS) (fun _=>rfl) rfl ?_;clear hS kt11;intro a13 c13 w hS
   refine ⟨by decide,?_⟩
   obtain rfl:=some_inj h
   exact hX _ rfl _ _ ⟨_,_,_,_,_,_,rfl,rfl,(hS.pick (A:=[_,_,_,_]) [2,2,0] rfl)⟩
  obtain rfl:=some_inj h
  have h:=congrArg some (hO _ rfl)
  obtain rfl:=some_inj h
  exact hJ6 _ _ ⟨_,_,_,_,rfl,rfl,(hS.pick (A:=[_,_,_]) [2] rfl)⟩
 clear h6 hS
 rintro s w ⟨a3,m4,c5,t3,rfl,rfl,hS⟩
 have h:=c6
 clear c6
 try dsimp only
 obtain ⟨t12,ht12,h⟩:=bnd h
 refine wk_r02_limbs H hS (Ent.sl mp0) ht12 ?_;rintro a14 m14 c14 w hS
 refine ⟨_,_,_,rfl,?_⟩
 cases some_inj h
 exact hK _ _ _ _ (hS.pick (A:=[_,_]) [0] rfl)
theorem wk_r02_Plus0 {qa qc qd qf l0_1 qe ql qk qi qj l1_1 qr u0 u1 u2} (hS:Ho w0 w L) (qm:EU L l0_1 qc qd qf) (qv:EU L l1_1 qk qi qj) (hx:T_r02_Plus0 qa l0_1 qe ql l1_1 qr=some (u0,u1,u2)) (hK:∀ (it1:It) (a1:OA) (n1 c1:Nat) (w1:World),(∀ L1,it1∈L1→Ent L1 (rdA (List.map (Value.int .u64) l0_1) qc qd qf)→Ent L1 (rdA (List.map (Value.int .u64) l1_1) qk qi qj)→Ent L1 (rdA (List.map (Value.int .u64) u1) a1 n1 c1))→Ho w0 w1 (it1::L)→K (.agg #[.bool u0,.slice a1 n1 c1,.int .i64 u2]) w1):CallsX P N.f_r02_Plus #[.agg #[.bool qa,.slice qc qd qf,.int .i64 qe],.agg #[.bool ql,.slice qk qi qj,.int .i64 qr]] w K:=by
 unfold T_r02_Plus0 at hx
 cases hx
theorem wk_r02_Plus1 {qa qc qd qf l0_1 qe ql qk qi qj l1_1 qr u0 u1 u2} (hS:Ho w0 w L) (qm:EU L l0_1 qc qd qf) (qv:EU L l1_1 qk qi qj) (h:T_r02_Plus1 qa l0_1 qe ql l1_1 qr=some (u0,u1,u2)) (hK:∀ (it1:It) (a1:OA) (n1 c1:Nat) (w1:World),(∀ L1,it1∈L1→Ent L1 (rdA (List.map (Value.int .u64) l0_1) qc qd qf)→Ent L1 (rdA (List.map (Value.int .u64) l1_1) qk qi qj)→Ent L1 (rdA (List.map (Value.int .u64) u1) a1 n1 c1))→Ho w0 w1 (it1::L)→K (.agg #[.bool u0,.slice a1 n1 c1,.int .i64 u2]) w1):CallsX P N.f_r02_Plus #[.agg #[.bool qa,.slice qc qd qf,.int .i64 qe],.agg #[.bool ql,.slice qk qi qj,.int .i64 qr]] w K:=by
 refine H.r02_Plus qa qc qd qf qe ql qk qi qj qr w _ ?_
 unfold S_r02_Plus
 unfold T_r02_Plus1 at h
 try dsimp only
 refine newM_s hS ?_;intro r1 w hS
 refine newM_s hS ?_;intro r2 w hS
 refine newM_s hS ?_;intro r3 w hS
 refine ⟨_,hS.cel mp2 rfl,_,_,_,hS.cel mp2 rfl,_,hS.cel mp2 rfl,?_⟩
 obtain ⟨t1,ht1,h⟩:=bnd h
 refine wk_r02_Num_Zero H hS (qm.mono tl3) ht1 ?_;rintro w hS
 refine ⟨_,rfl,?_⟩
 refine cond_s h ?_ ?_<;>intro hc h
 ·
  refine ⟨_,hS.cel mp1 rfl,_,_,_,hS.cel mp1 rfl,_,hS.cel mp1 rfl,?_⟩
  refine stc_s hS rfl rfl ?_;intro w hS
  refine stc_s hS rfl rfl ?_;intro w hS
  refine stc_s hS rfl rfl ?_;intro w hS
  refine ⟨_,hS.cel mp0 rfl,_,_,_,hS.cel mp0 rfl,_,hS.cel mp0 rfl,?_⟩
  replace hS:=hS.voidItem
  cases some_inj h
  exact hK _ _ _ _ _ (fun _ hm hdq0_1 hdq1_1=>hdq1_1) (hS.pick (A:=[_,_,_,_]) [0] rfl)
 refine ⟨_,hS.cel mp1 rfl,_,_,_,hS.cel mp1 rfl,_,hS.cel mp1 rfl,?_⟩
 obtain ⟨t2,ht2,h⟩:=bnd h
 refine wk_r02_Num_Zero H hS (qv.mono tl3) ht2 ?_;rintro w hS
 refine ⟨_,rfl,?_⟩
 refine cond_s h ?_ ?_<;>intro hc h
 ·
  refine ⟨_,hS.cel mp2 rfl,_,_,_,hS.cel mp2 rfl,_,hS.cel mp2 rfl,?_⟩
  refine stc_s hS rfl rfl ?_;intro w hS
  refine stc_s hS rfl rfl ?_;intro w hS
  refine stc_s hS rfl rfl ?_;intro w hS
  refine ⟨_,hS.cel mp0 rfl,_,_,_,hS.cel mp0 rfl,_,hS.cel mp0 rfl,?_⟩
  replace hS:=hS.voidItem
  cases some_inj h
  exact hK _ _ _ _ _ (fun _ hm hdq0_1 hdq1_1=>hdq0_1) (hS.pick (A:=[_,_,_,_]) [0] rfl)
 refine ⟨_,hS.cel mp2 rfl,_,hS.cel mp1 rfl,?_⟩
 refine cond_s h ?_ ?_<;>intro hc h
 ·
  refine ⟨_,hS.cel mp1 rfl,_,_,_,hS.cel mp1 rfl,_,hS.cel mp1 rfl,_,hS.cel mp2 rfl,_,_,_,hS.cel mp2 rfl,_,hS.cel mp2 rfl,?_⟩
  obtain ⟨⟨t3,t4,t5⟩,ho3,h⟩:=bnd h
  refine wk_r02_Plus0 H hS (qv.mono tl3) (qm.mono tl3) ho3 ?_;clear hS ho3;rintro it4 a4 m4 c4 w e4 hS
  refine ⟨_,_,_,_,_,rfl,?_⟩
  replace hS:=ro1 hS
  refine stc_s hS rfl rfl ?_;intro w hS
  refine stc_s hS rfl rfl ?_;intro w hS
  refine stc_s hS rfl rfl ?_;intro w hS
  refine ⟨_,hS.cel mp0 rfl,_,_,_,hS.cel mp0 rfl,_,hS.cel mp0 rfl,?_⟩
  cases some_inj h
  exact hK _ _ _ _ _ (fun _ hm hdq0_1 hdq1_1=>(e4 _ hm hdq1_1 hdq0_1)) (hS.pick (A:=[_,_,_,_]) [1] rfl)
 refine ⟨_,_,_,hS.cel mp2 rfl,_,_,_,hS.cel mp1 rfl,_,hS.cel mp1 rfl,_,hS.cel mp2 rfl,?_⟩
 obtain ⟨t6,ht6,h⟩:=bnd h
 refine wk_r02_NatUp H hS (qv.mono tl3) ht6 ?_;rintro a5 m5 c5 w hS
 refine ⟨_,_,_,rfl,?_⟩
 refine ⟨_,hS.cel mp3 rfl,_,hS.cel mp2 rfl,?_⟩
 refine cond_s h ?_ ?_<;>intro hc h
 ·
  refine ⟨_,hS.cel mp3 rfl,_,hS.cel mp3 rfl,?_⟩
  refine drM_s hS ?_;intro w hS
  obtain ⟨t7,ht7,h⟩:=bnd h
  refine wk_r02_NatAdd H hS (qm.mono tl4) (Ent.sl mp0) ht7 ?_;rintro a6 m6 c6 w hS
  refine ⟨_,_,_,rfl,?_⟩
  refine ⟨(hS.cel mp4 rfl),?_⟩
  refine ⟨(hS.cel mp4 rfl),?_⟩
  refine drM_s hS ?_;intro w hS
  replace hS:=ro2 hS
  refine stc_s hS rfl rfl ?_;intro w hS
  refine stc_s hS rfl rfl ?_;intro w hS
  refine stc_s hS rfl rfl ?_;intro w hS
  refine drM_s hS ?_;intro w hS
  refine ⟨_,hS.cel mp0 rfl,_,_,_,hS.cel mp0 rfl,_,hS.cel mp0 rfl,?_⟩
  cases some_inj h
  exact hK _ _ _ _ _ (fun _ hm hdq0_1 hdq1_1=>(Ent.sl hm)) (hS.pick (A:=[_,_,_,_,_]) [1] rfl)
 obtain ⟨t8,ht8,h⟩:=bnd h
 refine wk_r02_NatCmp H hS (qm.mono tl4) (Ent.sl mp0) ht8 ?_;rintro w hS
 refine ⟨_,rfl,?_⟩
 refine cond_s h ?_ ?_<;>intro hc h
 ·
  refine ⟨_,hS.cel mp3 rfl,_,hS.cel mp3 rfl,?_⟩
  refine drM_s hS ?_;intro w hS
  obtain ⟨t9,ht9,h⟩:=bnd h
  refine wk_r02_NatSub H hS (qm.mono tl4) (Ent.sl mp0) ht9 ?_;rintro a7 m7 c7 w hS
  refine ⟨_,_,_,rfl,?_⟩
  refine ⟨(hS.cel mp4 rfl),?_⟩
  refine ⟨(hS.cel mp4 rfl),?_⟩
  refine drM_s hS ?_;intro w hS
  replace hS:=ro2 hS
  refine stc_s hS rfl rfl ?_;intro w hS
  refine stc_s hS rfl rfl ?_;intro w hS
  refine stc_s hS rfl rfl ?_;intro w hS
  refine drM_s hS ?_;intro w hS
  refine ⟨_,hS.cel mp0 rfl,_,_,_,hS.cel mp0 rfl,_,hS.cel mp0 rfl,?_⟩
  cases some_inj h
  exact hK _ _ _ _ _ (fun _ hm hdq0_1 hdq1_1=>(Ent.sl hm)) (hS.pick (A:=[_,_,_,_,_]) [1] rfl)
 refine ⟨_,hS.cel mp2 rfl,_,hS.cel mp3 rfl,?_⟩
 refine drM_s hS ?_;intro w hS
 obtain ⟨t10,ht10,h⟩:=bnd h
 refine wk_r02_NatSub H hS (Ent.sl mp0) (qm.mono tl4) ht10 ?_;rintro a8 m8 c8 w hS
 refine ⟨_,_,_,rfl,?_⟩
 refine ⟨(hS.cel mp4 rfl),?_⟩
 refine ⟨(hS.cel mp3 rfl),?_⟩
 refine drM_s hS ?_;intro w hS
 replace hS:=ro2 hS
 refine stc_s hS rfl rfl ?_;intro w hS
 refine stc_s hS rfl rfl ?_;intro w hS
 refine stc_s hS rfl rfl ?_;intro w hS
 refine drM_s hS ?_;intro w hS
 refine ⟨_,hS.cel mp0 rfl,_,_,_,hS.cel mp0 rfl,_,hS.cel mp0 rfl,?_⟩
 cases some_inj h
 exact hK _ _ _ _ _ (fun _ hm hdq0_1 hdq1_1=>(Ent.sl hm)) (hS.pick (A:=[_,_,_,_,_]) [1] rfl)
theorem wk_r02_Plus {qa qc qd qf l0_1 qe ql qk qi qj l1_1 qr u0 u1 u2} (hS:Ho w0 w L) (qm:EU L l0_1 qc qd qf) (qv:EU L l1_1 qk qi qj) (h:T_r02_Plus qa l0_1 qe ql l1_1 qr=some (u0,u1,u2)) (hK:∀ (it1:It) (a1:OA) (n1 c1:Nat) (w1:World),(∀ L1,it1∈L1→Ent L1 (rdA (List.map (Value.int .u64) l0_1) qc qd qf)→Ent L1 (rdA (List.map (Value.int .u64) l1_1) qk qi qj)→Ent L1 (rdA (List.map (Value.int .u64) u1) a1 n1 c1))→Ho w0 w1 (it1::L)→K (.agg #[.bool u0,.slice a1 n1 c1,.int .i64 u2]) w1):CallsX P N.f_r02_Plus #[.agg #[.bool qa,.slice qc qd qf,.int .i64 qe],.agg #[.bool ql,.slice qk qi qj,.int .i64 qr]] w K:=by
 refine H.r02_Plus qa qc qd qf qe ql qk qi qj qr w _ ?_
 unfold S_r02_Plus
 unfold T_r02_Plus at h
 try dsimp only
 refine newM_s hS ?_;intro r1 w hS
 refine newM_s hS ?_;intro r2 w hS
 refine newM_s hS ?_;intro r3 w hS
 refine ⟨_,hS.cel mp2 rfl,_,_,_,hS.cel mp2 rfl,_,hS.cel mp2 rfl,?_⟩
 obtain ⟨t1,ht1,h⟩:=bnd h
 refine wk_r02_Num_Zero H hS (qm.mono tl3) ht1 ?_;rintro w hS
 refine ⟨_,rfl,?_⟩
 refine cond_s h ?_ ?_<;>intro hc h
 ·
  refine ⟨_,hS.cel mp1 rfl,_,_,_,hS.cel mp1 rfl,_,hS.cel mp1 rfl,?_⟩
  refine stc_s hS rfl rfl ?_;intro w hS
  refine stc_s hS rfl rfl ?_;intro w hS
  refine stc_s hS rfl rfl ?_;intro w hS
  refine ⟨_,hS.cel mp0 rfl,_,_,_,hS.cel mp0 rfl,_,hS.cel mp0 rfl,?_⟩
  replace hS:=hS.voidItem
  cases some_inj h
  exact hK _ _ _ _ _ (fun _ hm hdq0_1 hdq1_1=>hdq1_1) (hS.pick (A:=[_,_,_,_]) [0] rfl)
 refine ⟨_,hS.cel mp1 rfl,_,_,_,hS.cel mp1 rfl,_,hS.cel mp1 rfl,?_⟩
 obtain ⟨t2,ht2,h⟩:=bnd h
 refine wk_r02_Num_Zero H hS (qv.mono tl3) ht2 ?_;rintro w hS
 refine ⟨_,rfl,?_⟩
 refine cond_s h ?_ ?_<;>intro hc h
 ·
  refine ⟨_,hS.cel mp2 rfl,_,_,_,hS.cel mp2 rfl,_,hS.cel mp2 rfl,?_⟩
  refine stc_s hS rfl rfl ?_;intro w hS
  refine stc_s hS rfl rfl ?_;intro w hS
  refine stc_s hS rfl rfl ?_;intro w hS
  refine ⟨_,hS.cel mp0 rfl,_,_,_,hS.cel mp0 rfl,_,hS.cel mp0 rfl,?_⟩
  replace hS:=hS.voidItem
  cases some_inj h
  exact hK _ _ _ _ _ (fun _ hm hdq0_1 hdq1_1=>hdq0_1) (hS.pick (A:=[_,_,_,_]) [0] rfl)
 refine ⟨_,hS.cel mp2 rfl,_,hS.cel mp1 rfl,?_⟩
 refine cond_s h ?_ ?_<;>intro hc h
 ·
  refine ⟨_,hS.cel mp1 rfl,_,_,_,hS.cel mp1 rfl,_,hS.cel mp1 rfl,_,hS.cel mp2 rfl,_,_,_,hS.cel mp2 rfl,_,hS.cel mp2 rfl,?_⟩
  obtain ⟨⟨t3,t4,t5⟩,ho3,h⟩:=bnd h
  refine wk_r02_Plus1 H hS (qv.mono tl3) (qm.mono tl3) ho3 ?_;clear hS ho3;rintro it4 a4 m4 c4 w e4 hS
  refine ⟨_,_,_,_,_,rfl,?_⟩
  replace hS:=ro1 hS
  refine stc_s hS rfl rfl ?_;intro w hS
  refine stc_s hS rfl rfl ?_;intro w hS
  refine stc_s hS rfl rfl ?_;intro w hS
  refine ⟨_,hS.cel mp0 rfl,_,_,_,hS.cel mp0 rfl,_,hS.cel mp0 rfl,?_⟩
  cases some_inj h
  exact hK _ _ _ _ _ (fun _ hm hdq0_1 hdq1_1=>(e4 _ hm hdq1_1 hdq0_1)) (hS.pick (A:=[_,_,_,_]) [1] rfl)
 refine ⟨_,_,_,hS.cel mp2 rfl,_,_,_,hS.cel mp1 rfl,_,hS.cel mp1 rfl,_,hS.cel mp2 rfl,?_⟩
 obtain ⟨t6,ht6,h⟩:=bnd h
 refine wk_r02_NatUp H hS (qv.mono tl3) ht6 ?_;rintro a5 m5 c5 w hS
 refine ⟨_,_,_,rfl,?_⟩
 refine ⟨_,hS.cel mp3 rfl,_,hS.cel mp2 rfl,?_⟩
 refine cond_s h ?_ ?_<;>intro hc h
 ·
  refine ⟨_,hS.cel mp3 rfl,_,hS.cel mp3 rfl,?_⟩
  refine drM_s hS ?_;intro w hS
  obtain ⟨t7,ht7,h⟩:=bnd h
  refine wk_r02_NatAdd H hS (qm.mono tl4) (Ent.sl mp0) ht7 ?_;rintro a6 m6 c6 w hS
  refine ⟨_,_,_,rfl,?_⟩
  refine ⟨(hS.cel mp4 rfl),?_⟩
  refine ⟨(hS.cel mp4 rfl),?_⟩
  refine drM_s hS ?_;intro w hS
  replace hS:=ro2 hS
  refine stc_s hS rfl rfl ?_;intro w hS
  refine stc_s hS rfl rfl ?_;intro w hS
  refine stc_s hS rfl rfl ?_;intro w hS
  refine drM_s hS ?_;intro w hS
  refine ⟨_,hS.cel mp0 rfl,_,_,_,hS.cel mp0 rfl,_,hS.cel mp0 rfl,?_⟩
  cases some_inj h
  exact hK _ _ _ _ _ (fun _ hm hdq0_1 hdq1_1=>(Ent.sl hm)) (hS.pick (A:=[_,_,_,_,_]) [1] rfl)
 obtain ⟨t8,ht8,h⟩:=bnd h
 refine wk_r02_NatCmp H hS (qm.mono tl4) (Ent.sl mp0) ht8 ?_;rintro w hS
 refine ⟨_,rfl,?_⟩
 refine cond_s h ?_ ?_<;>intro hc h
 ·
  refine ⟨_,hS.cel mp3 rfl,_,hS.cel mp3 rfl,?_⟩
  refine drM_s hS ?_;intro w hS
  obtain ⟨t9,ht9,h⟩:=bnd h
  refine wk_r02_NatSub H hS (qm.mono tl4) (Ent.sl mp0) ht9 ?_;rintro a7 m7 c7 w hS
  refine ⟨_,_,_,rfl,?_⟩
  refine ⟨(hS.cel mp4 rfl),?_⟩
  refine ⟨(hS.cel mp4 rfl),?_⟩
  refine drM_s hS ?_;intro w hS
  replace hS:=ro2 hS
  refine stc_s hS rfl rfl ?_;intro w hS
  refine stc_s hS rfl rfl ?_;intro w hS
  refine stc_s hS rfl rfl ?_;intro w hS
  refine drM_s hS ?_;intro w hS
  refine ⟨_,hS.cel mp0 rfl,_,_,_,hS.cel mp0 rfl,_,hS.cel mp0 rfl,?_⟩
  cases some_inj h
  exact hK _ _ _ _ _ (fun _ hm hdq0_1 hdq1_1=>(Ent.sl hm)) (hS.pick (A:=[_,_,_,_,_]) [1] rfl)
 refine ⟨_,hS.cel mp2 rfl,_,hS.cel mp3 rfl,?_⟩
 refine drM_s hS ?_;intro w hS
 obtain ⟨t10,ht10,h⟩:=bnd h
 refine wk_r02_NatSub H hS (Ent.sl mp0) (qm.mono tl4) ht10 ?_;rintro a8 m8 c8 w hS
 refine ⟨_,_,_,rfl,?_⟩
 refine ⟨(hS.cel mp4 rfl),?_⟩
 refine ⟨(hS.cel mp3 rfl),?_⟩
 refine drM_s hS ?_;intro w hS
 replace hS:=ro2 hS
 refine stc_s hS rfl rfl ?_;intro w hS
 refine stc_s hS rfl rfl ?_;intro w hS
 refine stc_s hS rfl rfl ?_;intro w hS
 refine drM_s hS ?_;intro w hS
 refine ⟨_,hS.cel mp0 rfl,_,_,_,hS.cel mp0 rfl,_,hS.cel mp0 rfl,?_⟩
 cases some_inj h
 exact hK _ _ _ _ _ (fun _ hm hdq0_1 hdq1_1=>(Ent.sl hm)) (hS.pick (A:=[_,_,_,_,_]) [1] rfl)
theorem wk_r02_Num_top {qa qc qd qf l0_1 qe u0} (hS:Ho w0 w L) (qm:EU L l0_1 qc qd qf) (h:T_r02_Num_top qa l0_1 qe=some u0) (hK:∀ w1,Ho w0 w1 L→K (.int .i64 u0) w1):CallsX P N.f_r02_Num_top #[.agg #[.bool qa,.slice qc qd qf,.int .i64 qe]] w K:=by
 refine H.r02_Num_top qa qc qd qf qe w _ ?_
 unfold S_r02_Num_top
 unfold T_r02_Num_top at h
 try dsimp only
 refine newM_s hS ?_;intro r1 w hS
 refine ⟨_,hS.cel mp0 rfl,_,_,_,hS.cel mp0 rfl,?_⟩
 refine drM_s hS ?_;intro w hS
 obtain ⟨t1,ht1,h⟩:=bnd h
 refine wk_r02_NatBits H hS (qm.mono tl1) ht1 ?_;rintro w hS
 refine ⟨_,rfl,?_⟩
 refine ⟨(hS.cel mp0 rfl),?_⟩
 refine drM_s hS ?_;intro w hS
 cases some_inj h
 exact hK _ (hS.pick (A:=[_]) [] rfl)
theorem wk_r02_short {q0 qh qn l0 q1 u0 u1} (hS:Ho w0 w L) (qw:EU L l0 q0 qh qn) (h:T_r02_short l0 q1=some (u0,u1)) (hK:∀ (a0:OA) (n0 c0:Nat) (w1:World),Ho w0 w1 ((sl a0 n0 c0 (List.map (Value.int .u64) u0) N.t_uint64)::L)→K (.tuple #[.slice a0 n0 c0,.int .u64 u1]) w1):CallsX P N.f_r02_short #[.slice q0 qh qn,.int .u64 q1] w K:=by
 refine H.r02_short q0 qh qn q1 w _ ?_
 unfold S_r02_short
 unfold T_r02_short at h
 try dsimp only
 obtain ⟨t1,ht1,h⟩:=bnd h
 obtain rfl:=lenE ht1 (qw.now (fun _ h=>h) hS)
 obtain ⟨t2,ht2,h⟩:=bnd h
 obtain ⟨rfl,kt2⟩:=mkE ht2
 refine mk_s (enc:=(Value.int .u64)) hS kt2 rfl ?_;clear hS kt2;intro r1 w hS
 obtain ⟨t3,ht3,h⟩:=bnd h
 obtain rfl:=lenE ht3 ((qw.mono tl1).now (fun _ h=>h) hS)
 obtain ⟨o2,h2,c2⟩:=bnd h
 refine cutM_i (fun s w=>∃ (t4:Int) (t5:List Int),(t4,t5)=o2∧s=(t4,())∧Ho w0 w ((sl (some ⟨r1,0,none⟩) (((qh:Int)).toNat) (((qh:Int)).toNat) (List.map (Value.int .u64) t5) N.t_uint64)::L)) (fun J2 hJ2=>?_) ?_
 ·
  have h:=h2
  clear h2
  refine iter_sim (fun s w t=>∃ (t6:Int) (t7:Int) (t8:List Int),(t6,t7,t8)=t∧s=(t6,t7,())∧Ho w0 w ((sl (some ⟨r1,0,none⟩) (((qh:Int)).toNat) (((qh:Int)).toNat) (List.map (Value.int .u64) t8) N.t_uint64)::L)) ?_ h ⟨_,_,_,rfl,rfl,hS⟩
  clear h hS
  rintro s w t X q ⟨t6,t7,t8,rfl,rfl,hS⟩ h hX hO
  unfold T_r02_short_b2 at h
  try dsimp only
  refine cond_s h ?_ ?_<;>intro hc h
  ·
   obtain ⟨t9,ht9,h⟩:=bnd h
   obtain ⟨q3x,vn,q3r⟩:=atE ht9
   refine idx_s ((qw.mono tl1).now (fun _ h=>h) hS) q3x vn q3r ?_;intro b4 hb4
   refine ⟨_,rd_get ((qw.mono tl1).now (fun _ h=>h) hS) hb4 q3x,?_⟩
   obtain ⟨t13,ht13,h⟩:=bnd h
   refine ⟨nz_s ht13,?_⟩
   obtain ⟨t10,ht10,h⟩:=bnd h
   obtain ⟨q5x,jf,q5r⟩:=atE ht10
   refine idy_s ((Ent.sl mp0).now (fun _ h=>h) hS) q5x jf q5r ?_
   obtain ⟨t11,ht11,h⟩:=bnd h
   obtain rfl:=some_inj ht11
   refine sto_s hS rfl q5r ?_;intro w hS
   obtain ⟨t12,ht12,h⟩:=bnd h
   refine ⟨nz_s ht12,?_⟩
   obtain rfl:=some_inj h
   exact hX _ rfl _ _ ⟨_,_,_,rfl,rfl,hS⟩
  obtain rfl:=some_inj h
  have h:=congrArg some (hO _ rfl)
  exact hJ2 _ _ ⟨_,_,some_inj h,rfl,hS⟩
 clear h2 hS
 rintro s w ⟨t4,t5,rfl,rfl,hS⟩
 have h:=c2
 clear c2
 try dsimp only
 obtain ⟨t14,ht14,h⟩:=bnd h
 refine wk_r02_low H hS (Ent.sl mp0) ht14 ?_;rintro w hS
 refine ⟨_,_,_,rfl,?_⟩
 obtain ⟨t15,ht15,h⟩:=bnd h
 obtain ⟨rfl,bm,bo,zl⟩:=subE ht15
 have br:=((Ent.sl mp0).now (fun _ h=>h) hS).hiCap zl
 replace hS:=Ho.cut hS zl
 cases some_inj h
 exact hK _ _ _ _ hS
theorem wk_r02_NatDown {q0 qh qn l0 q1 u0 u1} (hS:Ho w0 w L) (qw:EU L l0 q0 qh qn) (h:T_r02_NatDown l0 q1=some (u0,u1)) (hK:∀ (a0:OA) (n0 c0:Nat) (w1:World),Ho w0 w1 ((sl a0 n0 c0 (List.map (Value.int .u64) u0) N.t_uint64)::L)→K (.tuple #[.slice a0 n0 c0,.bool u1]) w1):CallsX P N.f_r02_NatDown #[.slice q0 qh qn,.int .i64 q1] w K:=by
 refine H.r02_NatDown q0 qh qn q1 w _ ?_
 unfold S_r02_NatDown
 unfold T_r02_NatDown at h
 try dsimp only
 obtain ⟨t1,ht1,h⟩:=bnd h
 refine wk_r02_halves H hS qw ht1 ?_;rintro a1 m1 c1 w hS
 refine ⟨_,_,_,rfl,?_⟩
 obtain ⟨o2,h2,c2⟩:=bnd h
 refine cutM_i (fun s w=>∃ (t2:Bool),t2=o2∧s=(t2,())∧Ho w0 w ((sl a1 m1 c1 (List.map (Value.int .u64) t1) N.t_uint64)::L)) (fun J2 hJ2=>?_) ?_
 ·
  have h:=h2
  clear h2
  refine iter_sim (fun s w t=>∃ (t3:Bool) (t4:Int),(t3,t4)=t∧s=(t3,t4,())∧Ho w0 w ((sl a1 m1 c1 (List.map (Value.int .u64) t1) N.t_uint64)::L)) ?_ h ⟨_,_,rfl,rfl,hS⟩
  clear h hS
  rintro s w t X q ⟨t3,t4,rfl,rfl,hS⟩ h hX hO
  unfold T_r02_NatDown_b2 at h
  try dsimp only
  refine ⟨by decide,?_⟩
  refine cond_s h ?_ ?_<;>intro hc h
  ·
   obtain ⟨t5,ht5,h⟩:=bnd h
   obtain rfl:=lenE ht5 ((Ent.sl mp0).now (fun _ h=>h) hS)
   refine cond_s h ?_ ?_<;>intro hc h
   ·
    refine cond_s h ?_ ?_<;>intro hc h
    ·
     obtain ⟨t6,ht6,h⟩:=bnd h
     obtain ⟨q3x,vn,q3r⟩:=atE ht6
     refine idx_s ((Ent.sl mp0).now (fun _ h=>h) hS) q3x vn q3r ?_;intro b4 hb4
     refine ⟨_,rd_get ((Ent.sl mp0).now (fun _ h=>h) hS) hb4 q3x,?_⟩
     obtain rfl:=some_inj h
     exact hX _ rfl _ _ ⟨_,_,rfl,rfl,hS⟩
    obtain rfl:=some_inj h
    exact hX _ rfl _ _ ⟨_,_,rfl,rfl,hS⟩
   obtain rfl:=some_inj h
   have h:=congrArg some (hO _ rfl)
   exact hJ2 _ _ ⟨_,some_inj h,rfl,hS⟩
  obtain rfl:=some_inj h
  have h:=congrArg some (hO _ rfl)
  exact hJ2 _ _ ⟨_,some_inj h,rfl,hS⟩
 clear h2 hS
 rintro s w ⟨t2,rfl,rfl,hS⟩
 have h:=c2
 clear c2
 try dsimp only
 refine ⟨by decide,?_⟩
 obtain ⟨t7,ht7,h⟩:=bnd h
 obtain rfl:=lenE ht7 ((Ent.sl mp0).now (fun _ h=>h) hS)
 refine cond_s h ?_ ?_<;>intro hc h
 ·
  replace hS:=hS.none (α:=Int) (enc:=(Value.int .u64)) (t:=N.t_uint64)
  cases some_inj h
  exact hK _ _ _ _ (hS.pick (A:=[_,_]) [0] rfl)
 obtain ⟨o5,h5,c5⟩:=bnd h
 refine cutM_i (fun s w=>∃ (t8:Int),t8=o5∧s=(t8,())∧Ho w0 w ((sl a1 m1 c1 (List.map (Value.int .u64) t1) N.t_uint64)::L)) (fun J5 hJ5=>?_) ?_
 ·
  have h:=h5
  clear h5
  refine iter_sim (fun s w t=>∃ (t9:Int) (t10:Int),(t9,t10)=t∧s=(t9,t10,())∧Ho w0 w ((sl a1 m1 c1 (List.map (Value.int .u64) t1) N.t_uint64)::L)) ?_ h ⟨_,_,rfl,rfl,hS⟩
  clear h hS
  rintro s w t X q ⟨t9,t10,rfl,rfl,hS⟩ h hX hO
  unfold T_r02_NatDown_b4 at h
  try dsimp only
  refine ⟨by decide,?_⟩
  refine cond_s h ?_ ?_<;>intro hc h
  ·
   obtain rfl:=some_inj h
   exact hX _ rfl _ _ ⟨_,_,rfl,rfl,hS⟩
  obtain rfl:=some_inj h
  have h:=congrArg some (hO _ rfl)
  exact hJ5 _ _ ⟨_,some_inj h,rfl,hS⟩
 clear h5 hS
 rintro s w ⟨t8,rfl,rfl,hS⟩
 have h:=c5
 clear c5
 try dsimp only
 refine ⟨by decide,?_⟩
 obtain ⟨t12,ht12,h⟩:=bnd h
 obtain rfl:=lenE ht12 ((Ent.sl mp0).now (fun _ h=>h) hS)
 obtain ⟨t11,ht11,h⟩:=bnd h
 obtain ⟨rfl,zm,zn,bs⟩:=subE ht11
 refine ⟨(by first | exact zm | omega),(by first | exact zn | omega),?_⟩
 obtain ⟨⟨t13,t14⟩,ho13,h⟩:=bnd h
 refine wk_r02_short H hS (Ent.from (Ent.sl mp0) zm zn) ho13 ?_;clear hS ho13;rintro a7 m7 c7 w hS
 refine ⟨_,_,_,_,rfl,?_⟩
 obtain ⟨t15,ht15,h⟩:=bnd h
 refine wk_r02_limbs H hS (Ent.sl mp0) ht15 ?_;rintro a8 m8 c8 w hS
 refine ⟨_,_,_,rfl,?_⟩
 refine cond_s h ?_ ?_<;>intro hc h
 ·
  cases some_inj h
  exact hK _ _ _ _ (hS.pick (A:=[_,_,_]) [0] rfl)
 cases some_inj h
 exact hK _ _ _ _ (hS.pick (A:=[_,_,_]) [0] rfl)
theorem wk_r02_up {q0 q1 q2 q3 u0} (hS:Ho w0 w L)  (h:T_r02_up q0 q1 q2 q3=some u0) (hK:∀ w1,Ho w0 w1 L→K (.bool u0) w1):CallsX P N.f_r02_up #[.int .i8 q0,.bool q1,.int .i64 q2,.bool q3] w K:=by
 refine H.r02_up q0 q1 q2 q3 w _ ?_
 unfold S_r02_up
 unfold T_r02_up at h
 try dsimp only
 refine cond_s h ?_ ?_<;>intro hc h
 ·
  cases some_inj h
  exact hK _ hS
 refine cond_s h ?_ ?_<;>intro hc h
 ·
  cases some_inj h
  exact hK _ hS
 refine cond_s h ?_ ?_<;>intro hc h
 ·
  cases some_inj h
  exact hK _ hS
 refine cond_s h ?_ ?_<;>intro hc h
 ·
  refine cond_s h ?_ ?_<;>intro hc h
  ·
   cases some_inj h
   exact hK _ hS
  cases some_inj h
  exact hK _ hS
 cases some_inj h
 exact hK _ hS
theorem wk_r01_Join {qa qc qe u0 u1} (hS:Ho w0 w L)  (h:T_r01_Join qa qc qe=some (u0,u1)) (hK:∀ (z0:Nat) (w1:World),nf z0=u0→Ho w0 w1 L→K (.tuple #[.float .f64 z0,.bool u1]) w1):CallsX P N.f_r01_Join #[.agg #[.bool qa,.int .u64 qc,.int .i64 qe]] w K:=by
 refine H.r01_Join qa qc qe w _ ?_
 unfold S_r01_Join
 unfold T_r01_Join at h
 try dsimp only
 refine newM_s hS ?_;intro r1 w hS
 obtain ⟨o2,h2,c2⟩:=bnd h
 refine cutM_i (fun s w=>∃ (t1:Bool),t1=o2∧s=(t1,())∧Ho w0 w ((cl r1 [.bool qa,.int .u64 qc,.int .i64 qe] N.t_Parts)::L)) (fun J2 hJ2=>?_) ?_
 ·
  have h:=h2
  clear h2
  refine ⟨_,hS.cel mp0 rfl,?_⟩
  refine cond_s h ?_ ?_<;>intro hc h
  ·
   refine ⟨_,hS.cel mp0 rfl,?_⟩
   refine cond_s h ?_ ?_<;>intro hc h
   ·
    refine ⟨_,hS.cel mp0 rfl,?_⟩
    refine cond_s h ?_ ?_<;>intro hc h
    ·
     refine ⟨_,hS.cel mp0 rfl,_,hS.cel mp0 rfl,?_⟩
     refine ⟨by decide,?_⟩
     refine cond_s h ?_ ?_<;>intro hc h
     ·
      refine ⟨_,hS.cel mp0 rfl,?_⟩
      refine cond_s h ?_ ?_<;>intro hc h
      ·
       refine ⟨_,hS.cel mp0 rfl,?_⟩
       exact hJ2 _ _ ⟨_,some_inj h,rfl,hS⟩
      exact hJ2 _ _ ⟨_,some_inj h,rfl,hS⟩
     exact hJ2 _ _ ⟨_,some_inj h,rfl,hS⟩
    exact hJ2 _ _ ⟨_,some_inj h,rfl,hS⟩
   exact hJ2 _ _ ⟨_,some_inj h,rfl,hS⟩
  exact hJ2 _ _ ⟨_,some_inj h,rfl,hS⟩
 clear h2 hS
 rintro s w ⟨t1,rfl,rfl,hS⟩
 have h:=c2
 clear c2
 try dsimp only
 refine cond_s h ?_ ?_<;>intro hc h
 ·
  cases some_inj h
  exact hK _ _ rfl (hS.pick (A:=[_]) [] rfl)
 refine ⟨_,hS.cel mp0 rfl,_,hS.cel mp0 rfl,?_⟩
 refine drM_s hS ?_;intro w hS
 obtain ⟨o3,h3,c3⟩:=bnd h
 refine cutM_i (fun s w=>∃ (t2:Int) (t3:Int),(t2,t3)=o3∧s=(t2,t3,())∧Ho w0 w ((cl r1 [.bool qa,.int .u64 qc,.int .i64 qe] N.t_Parts)::L)) (fun J3 hJ3=>?_) ?_
 ·
  have h:=h3
  clear h3
  refine iter_sim (fun s w t=>∃ (t4:Int) (t5:Int),(t4,t5)=t∧s=(t4,t5,())∧Ho w0 w ((cl r1 [.bool qa,.int .u64 qc,.int .i64 qe] N.t_Parts)::L)) ?_ h ⟨_,_,rfl,rfl,hS⟩
  clear h hS
  rintro s w t X q ⟨t4,t5,rfl,rfl,hS⟩ h hX hO
  unfold T_r01_Join_b2 at h
  try dsimp only
  refine cond_s h ?_ ?_<;>intro hc h
  ·
   refine cond_s h ?_ ?_<;>intro hc h
   ·
    refine cond_s h ?_ ?_<;>intro hc h
    ·
     obtain rfl:=some_inj h
     exact hX _ rfl _ _ ⟨_,_,rfl,rfl,hS⟩
    obtain rfl:=some_inj h
    have h:=congrArg some (hO _ rfl)
    exact hJ3 _ _ ⟨_,_,some_inj h,rfl,hS⟩
   obtain rfl:=some_inj h
   have h:=congrArg some (hO _ rfl)
   exact hJ3 _ _ ⟨_,_,some_inj h,rfl,hS⟩
  obtain rfl:=some_inj h
  have h:=congrArg some (hO _ rfl)
  exact hJ3 _ _ ⟨_,_,some_inj h,rfl,hS⟩
 clear h3 hS
 rintro s w ⟨t2,t3,rfl,rfl,hS⟩
 have h:=c3
 clear c3
 try dsimp only
 refine cond_s h ?_ ?_<;>intro hc h
 ·
  cases some_inj h
  exact hK _ _ rfl (hS.pick (A:=[_]) [] rfl)
 obtain ⟨o4,h4,c4⟩:=bnd h
 refine cutM_i (fun s w=>∃ (t6:Int),t6=o4∧s=(t6,())∧Ho w0 w ((cl r1 [.bool qa,.int .u64 qc,.int .i64 qe] N.t_Parts)::L)) (fun J4 hJ4=>?_) ?_
 ·
  have h:=h4
  clear h4
  refine cond_s h ?_ ?_<;>intro hc h
  ·
   refine ⟨by decide,?_⟩
   exact hJ4 _ _ ⟨_,some_inj h,rfl,hS⟩
  exact hJ4 _ _ ⟨_,some_inj h,rfl,hS⟩
 clear h4 hS
 rintro s w ⟨t6,rfl,rfl,hS⟩
 have h:=c4
 clear c4
 try dsimp only
 refine ⟨_,hS.cel mp0 rfl,?_⟩
 obtain ⟨o5,h5,c5⟩:=bnd h
 refine cutM_i (fun s w=>∃ (t7:Int),t7=o5∧s=(t7,())∧Ho w0 w L) (fun J5 hJ5=>?_) ?_
 ·
  have h:=h5
  clear h5
  refine cond_s h ?_ ?_<;>intro hc h
  ·
   obtain rfl:=some_inj h
   exact hJ5 _ _ ⟨_,rfl,rfl,(hS.pick (A:=[_]) [] rfl)⟩
  obtain rfl:=some_inj h
  exact hJ5 _ _ ⟨_,rfl,rfl,(hS.pick (A:=[_]) [] rfl)⟩
 clear h5 hS
 rintro s w ⟨t7,rfl,rfl,hS⟩
 have h:=c5
 clear c5
 try dsimp only
 obtain ⟨t8,ht8,h⟩:=bnd h
 refine wk_math_Float64frombits H hS  ht8 ?_;rintro z6 w rfl hS
 refine ⟨_,rfl,?_⟩
 cases some_inj h
 exact hK _ _ rfl hS
theorem wk_r02_huge {q0 q1 u0} (hS:Ho w0 w L)  (h:T_r02_huge q0 q1=some u0) (hK:∀ (z0:Nat) (w1:World),nf z0=u0→Ho w0 w1 L→K (.float .f64 z0) w1):CallsX P N.f_r02_huge #[.int .i8 q0,.bool q1] w K:=by
 refine H.r02_huge q0 q1 w _ ?_
 unfold S_r02_huge
 unfold T_r02_huge at h
 try dsimp only
 obtain ⟨⟨t1,t2⟩,ho1,h⟩:=bnd h
 refine wk_r01_Join H hS  ho1 ?_;clear hS ho1;rintro z1 w rfl hS
 refine ⟨_,_,rfl,?_⟩
 obtain ⟨o3,h3,c3⟩:=bnd h
 refine cutM_i (fun s w=>∃ (z2:Nat),(nf z2)=o3∧s=(z2,())∧Ho w0 w L) (fun J3 hJ3=>?_) ?_
 ·
  have h:=h3
  clear h3
  refine cond_s h ?_ ?_<;>intro hc h
  ·
   exact hJ3 _ _ ⟨_,some_inj h,rfl,hS⟩
  exact hJ3 _ _ ⟨_,some_inj h,rfl,hS⟩
 clear h3 hS
 rintro s w ⟨z2,rfl,rfl,hS⟩
 have h:=c3
 clear c3
 try dsimp only
 refine cond_s h ?_ ?_<;>intro hc h
 ·
  refine cond_s h ?_ ?_<;>intro hc h
  ·
   refine cond_s h ?_ ?_<;>intro hc h
   ·
    refine cond_s h ?_ ?_<;>intro hc h
    ·
     refine cond_s h ?_ ?_<;>intro hc h
     ·
      cases some_inj h
      exact hK _ _ rfl hS
     obtain ⟨t4,ht4,h⟩:=bnd h
     refine fdiv_s ht4 hS ?_;rintro z4 w rfl hS
     cases some_inj h
     exact hK _ _ rfl hS
    obtain ⟨t5,ht5,h⟩:=bnd h
    refine fdiv_s ht5 hS ?_;rintro z5 w rfl hS
    cases some_inj h
    exact hK _ _ rfl hS
   cases some_inj h
   exact hK _ _ rfl hS
  refine cond_s h ?_ ?_<;>intro hc h
  ·
   refine cond_s h ?_ ?_<;>intro hc h
   ·
    cases some_inj h
    exact hK _ _ rfl hS
   obtain ⟨t6,ht6,h⟩:=bnd h
   refine fdiv_s ht6 hS ?_;rintro z6 w rfl hS
   cases some_inj h
   exact hK _ _ rfl hS
  obtain ⟨t7,ht7,h⟩:=bnd h
  refine fdiv_s ht7 hS ?_;rintro z7 w rfl hS
  cases some_inj h
  exact hK _ _ rfl hS
 cases some_inj h
 exact hK _ _ rfl hS
theorem wk_r02_float {q0 q1 q2 u0} (hS:Ho w0 w L)  (h:T_r02_float q0 q1 q2=some u0) (hK:∀ (z0:Nat) (w1:World),nf z0=u0→Ho w0 w1 L→K (.float .f64 z0) w1):CallsX P N.f_r02_float #[.bool q0,.int .u64 q1,.int .i64 q2] w K:=by
 refine H.r02_float q0 q1 q2 w _ ?_
 unfold S_r02_float
 unfold T_r02_float at h
 try dsimp only
 obtain ⟨o1,h1,c1⟩:=bnd h
 refine cutM_i (fun s w=>∃ (t1:Int),t1=o1∧s=(t1,())∧Ho w0 w L) (fun J1 hJ1=>?_) ?_
 ·
  have h:=h1
  clear h1
  refine cond_s h ?_ ?_<;>intro hc h
  ·
   exact hJ1 _ _ ⟨_,some_inj h,rfl,hS⟩
  exact hJ1 _ _ ⟨_,some_inj h,rfl,hS⟩
 clear h1 hS
 rintro s w ⟨t1,rfl,rfl,hS⟩
 have h:=c1
 clear c1
 try dsimp only
 obtain ⟨o2,h2,c2⟩:=bnd h
 refine cutM_i (fun s w=>∃ (t2:Int) (t3:Int),(t2,t3)=o2∧s=(t2,t3,())∧Ho w0 w L) (fun J2 hJ2=>?_) ?_
 ·
  have h:=h2
  clear h2
  refine iter_sim (fun s w t=>∃ (t4:Int) (t5:Int),(t4,t5)=t∧s=(t4,t5,())∧Ho w0 w L) ?_ h ⟨_,_,rfl,rfl,hS⟩
  clear h hS
  rintro s w t X q ⟨t4,t5,rfl,rfl,hS⟩ h hX hO
  unfold T_r02_float_b2 at h
  try dsimp only
  refine cond_s h ?_ ?_<;>intro hc h
  ·
   refine ⟨by decide,?_⟩
   refine cond_s h ?_ ?_<;>intro hc h
   ·
    refine ⟨by decide,?_⟩
    obtain rfl:=some_inj h
    exact hX _ rfl _ _ ⟨_,_,rfl,rfl,hS⟩
   obtain rfl:=some_inj h
   have h:=congrArg some (hO _ rfl)
   exact hJ2 _ _ ⟨_,_,some_inj h,rfl,hS⟩
  obtain rfl:=some_inj h
  have h:=congrArg some (hO _ rfl)
  exact hJ2 _ _ ⟨_,_,some_inj h,rfl,hS⟩
 clear h2 hS
 rintro s w ⟨t2,t3,rfl,rfl,hS⟩
 have h:=c2
 clear c2
 try dsimp only
 obtain ⟨⟨t6,t7⟩,ho6,h⟩:=bnd h
 refine wk_r01_Join H hS  ho6 ?_;clear hS ho6;rintro z3 w rfl hS
 refine ⟨_,_,rfl,?_⟩
 cases some_inj h
 exact hK _ _ rfl hS
theorem wk_r02_Rounded {qa qc qd qf l0_1 qe q1 u0} (hS:Ho w0 w L) (qm:EU L l0_1 qc qd qf) (h:T_r02_Rounded qa l0_1 qe q1=some u0) (hK:∀ (z0:Nat) (w1:World),nf z0=u0→Ho w0 w1 L→K (.float .f64 z0) w1):CallsX P N.f_r02_Rounded #[.agg #[.bool qa,.slice qc qd qf,.int .i64 qe],.int .i8 q1] w K:=by
 refine H.r02_Rounded qa qc qd qf qe q1 w _ ?_
 unfold S_r02_Rounded
 unfold T_r02_Rounded at h
 try dsimp only
 refine newM_s hS ?_;intro r1 w hS
 refine ⟨_,hS.cel mp0 rfl,_,_,_,hS.cel mp0 rfl,_,hS.cel mp0 rfl,?_⟩
 obtain ⟨t1,ht1,h⟩:=bnd h
 refine wk_r02_Num_Zero H hS (qm.mono tl1) ht1 ?_;rintro w hS
 refine ⟨_,rfl,?_⟩
 refine cond_s h ?_ ?_<;>intro hc h
 ·
  cases some_inj h
  exact hK _ _ rfl (hS.pick (A:=[_]) [] rfl)
 refine ⟨_,hS.cel mp0 rfl,_,_,_,hS.cel mp0 rfl,_,hS.cel mp0 rfl,?_⟩
 obtain ⟨t2,ht2,h⟩:=bnd h
 refine wk_r02_Num_top H hS (qm.mono tl1) ht2 ?_;rintro w hS
 refine ⟨_,rfl,?_⟩
 refine ⟨_,hS.cel mp0 rfl,?_⟩
 obtain ⟨o5,h5,c5⟩:=bnd h
 refine cutM_i (fun s w=>∃ (a2:OA) (m3:Nat) (c4:Nat) (t3:List Int),t3=o5∧s=((a2,m3,c4),())∧Ho w0 w ((cl r1 [.bool qa,.slice qc qd qf,.int .i64 qe] N.t_r02_Num)::(sl a2 m3 c4 (List.map (Value.int .u64) t3) N.t_uint64)::L)) (fun J5 hJ5=>?_) ?_
 ·
  have h:=h5
  clear h5
  refine cond_s h ?_ ?_<;>intro hc h
  ·
   refine ⟨_,_,_,hS.cel mp0 rfl,_,hS.cel mp0 rfl,?_⟩
   obtain ⟨t4,ht4,h⟩:=bnd h
   refine wk_r02_NatUp H hS (qm.mono tl1) ht4 ?_;rintro a6 m6 c6 w hS
   refine ⟨_,_,_,rfl,?_⟩
   obtain rfl:=some_inj h
   exact hJ5 _ _ ⟨_,_,_,_,rfl,rfl,(hS.pick (A:=[_,_]) [1,0] rfl)⟩
  refine ⟨_,hS.cel mp0 rfl,_,_,_,hS.cel mp0 rfl,?_⟩
  obtain ⟨⟨t5,t6⟩,ho5,h⟩:=bnd h
  refine wk_r02_NatDown H hS (qm.mono tl1) ho5 ?_;clear hS ho5;rintro a7 m7 c7 w hS
  refine ⟨_,_,_,_,rfl,?_⟩
  obtain ⟨o11,h11,c11⟩:=bnd h
  refine cutM_i (fun s w=>∃ (a8:OA) (m9:Nat) (c10:Nat) (t7:List Int),t7=o11∧s=((a8,m9,c10),())∧Ho w0 w ((cl r1 [.bool qa,.slice qc qd qf,.int .i64 qe] N.t_r02_Num)::(sl a8 m9 c10 (List.map (Value.int .u64) t7) N.t_uint64)::L)) (fun J11 hJ11=>?_) ?_
  ·
   have h:=h11
   clear h11
   refine cond_s h ?_ ?_<;>intro hc h
   ·
    refine ⟨_,_,_,hS.cel mp1 rfl,?_⟩
    obtain ⟨⟨t8,t9⟩,ho8,h⟩:=bnd h
    refine wk_r02_NatDown H hS (qm.mono tl2) ho8 ?_;clear hS ho8;rintro a12 m12 c12 w hS
    refine ⟨_,_,_,_,rfl,?_⟩
    obtain ⟨o13,h13,c13⟩:=bnd h
    refine cutM_i (fun s w=>∃ (t10:Bool),t10=o13∧s=(t10,())∧Ho w0 w ((sl a7 m7 c7 (List.map (Value.int .u64) t5) N.t_uint64)::(cl r1 [.bool qa,.slice qc qd qf,.int .i64 qe] N.t_r02_Num)::L)) (fun J13 hJ13=>?_) ?_
    ·
     have h:=h13
     clear h13
     obtain ⟨t11,ht11,h⟩:=bnd h
     obtain rfl:=lenE ht11 ((Ent.sl mp0).now (fun _ h=>h) hS)
     refine cond_s h ?_ ?_<;>intro hc h
     ·
      obtain ⟨t12,ht12,h⟩:=bnd h
      obtain ⟨q14x,yx,q14r⟩:=atE ht12
      refine idx_s ((Ent.sl mp0).now (fun _ h=>h) hS) q14x yx q14r ?_;intro b15 hb15
      refine ⟨_,rd_get ((Ent.sl mp0).now (fun _ h=>h) hS) hb15 q14x,?_⟩
      refine ⟨by decide,?_⟩
      obtain rfl:=some_inj h
      exact hJ13 _ _ ⟨_,rfl,rfl,(hS.pick (A:=[_,_,_]) [1,1] rfl)⟩
     obtain rfl:=some_inj h
     exact hJ13 _ _ ⟨_,rfl,rfl,(hS.pick (A:=[_,_,_]) [1,1] rfl)⟩
    clear h13 hS
    rintro s w ⟨t10,rfl,rfl,hS⟩
    have h:=c13
    clear c13
    try dsimp only
    obtain ⟨o16,h16,c16⟩:=bnd h
    refine cutM_i (fun s w=>∃ (t13:Int),t13=o16∧s=(t13,())∧Ho w0 w ((sl a7 m7 c7 (List.map (Value.int .u64) t5) N.t_uint64)::(cl r1 [.bool qa,.slice qc qd qf,.int .i64 qe] N.t_r02_Num)::L)) (fun J16 hJ16=>?_) ?_
    ·
     have h:=h16
     clear h16
     refine cond_s h ?_ ?_<;>intro hc h
     ·
      obtain ⟨o17,h17,c17⟩:=bnd h
      refine cutM_i (fun s w=>∃ (t14:Int),t14=o17∧s=(t14,())∧Ho w0 w ((sl a7 m7 c7 (List.map (Value.int .u64) t5) N.t_uint64)::(cl r1 [.bool qa,.slice qc qd qf,.int .i64 qe] N.t_r02_Num)::L)) (fun J17 hJ17=>?_) ?_
      ·
       have h:=h17
       clear h17
       refine cond_s h ?_ ?_<;>intro hc h
       ·
        exact hJ17 _ _ ⟨_,some_inj h,rfl,hS⟩
       exact hJ17 _ _ ⟨_,some_inj h,rfl,hS⟩
      clear h17 hS
      rintro s w ⟨t14,rfl,rfl,hS⟩
      have h:=c17
      clear c17
      try dsimp only
      exact hJ16 _ _ ⟨_,some_inj h,rfl,hS⟩
     exact hJ16 _ _ ⟨_,some_inj h,rfl,hS⟩
    clear h16 hS
    rintro s w ⟨t13,rfl,rfl,hS⟩
    have h:=c16
    clear c16
    try dsimp only
    refine ⟨_,hS.cel mp1 rfl,?_⟩
    obtain ⟨t15,ht15,h⟩:=bnd h
    obtain rfl:=lenE ht15 ((Ent.sl mp0).now (fun _ h=>h) hS)
    refine cond_s h ?_ ?_<;>intro hc h
    ·
     obtain ⟨t16,ht16,h⟩:=bnd h
     obtain ⟨q18x,gc,q18r⟩:=atE ht16
     refine idx_s ((Ent.sl mp0).now (fun _ h=>h) hS) q18x gc q18r ?_;intro b19 hb19
     refine ⟨_,rd_get ((Ent.sl mp0).now (fun _ h=>h) hS) hb19 q18x,?_⟩
     refine ⟨by decide,?_⟩
     refine drM_s hS ?_;intro w hS
     obtain ⟨t17,ht17,h⟩:=bnd h
     refine wk_r02_up H hS  ht17 ?_;rintro w hS
     refine ⟨_,rfl,?_⟩
     refine drM_s hS ?_;intro w hS
     obtain ⟨o23,h23,c23⟩:=bnd h
     refine cutM_i (fun s w=>∃ (a20:OA) (m21:Nat) (c22:Nat) (t18:List Int),t18=o23∧s=((a20,m21,c22),())∧Ho w0 w ((cl r1 [.bool qa,.slice qc qd qf,.int .i64 qe] N.t_r02_Num)::(sl a20 m21 c22 (List.map (Value.int .u64) t18) N.t_uint64)::L)) (fun J23 hJ23=>?_) ?_
     ·
      have h:=h23
      clear h23
      refine cond_s h ?_ ?_<;>intro hc h
      ·
       obtain ⟨t19,ht19,h⟩:=bnd h
       refine wk_r02_NatOf H hS  ht19 ?_;rintro a24 m24 c24 w hS
       refine ⟨_,_,_,rfl,?_⟩
       obtain ⟨t20,ht20,h⟩:=bnd h
       refine wk_r02_NatAdd H hS (Ent.sl mp1) (Ent.sl mp0) ht20 ?_;rintro a25 m25 c25 w hS
       refine ⟨_,_,_,rfl,?_⟩
       obtain rfl:=some_inj h
       exact hJ23 _ _ ⟨_,_,_,_,rfl,rfl,(hS.pick (A:=[_,_,_,_]) [3,0] rfl)⟩
      obtain rfl:=some_inj h
      exact hJ23 _ _ ⟨_,_,_,_,rfl,rfl,(hS.pick (A:=[_,_]) [1,0] rfl)⟩
     clear h23 hS
     rintro s w ⟨a20,m21,c22,t18,rfl,rfl,hS⟩
     have h:=c23
     clear c23
     try dsimp only
     exact hJ11 _ _ ⟨_,_,_,_,some_inj h,rfl,hS⟩
    refine drM_s hS ?_;intro w hS
    obtain ⟨t21,ht21,h⟩:=bnd h
    refine wk_r02_up H hS  ht21 ?_;rintro w hS
    refine ⟨_,rfl,?_⟩
    refine drM_s hS ?_;intro w hS
    obtain ⟨o29,h29,c29⟩:=bnd h
    refine cutM_i (fun s w=>∃ (a26:OA) (m27:Nat) (c28:Nat) (t22:List Int),t22=o29∧s=((a26,m27,c28),())∧Ho w0 w ((cl r1 [.bool qa,.slice qc qd qf,.int .i64 qe] N.t_r02_Num)::(sl a26 m27 c28 (List.map (Value.int .u64) t22) N.t_uint64)::L)) (fun J29 hJ29=>?_) ?_
    ·
     have h:=h29
     clear h29
     refine cond_s h ?_ ?_<;>intro hc h
     ·
      obtain ⟨t23,ht23,h⟩:=bnd h
      refine wk_r02_NatOf H hS  ht23 ?_;rintro a30 m30 c30 w hS
      refine ⟨_,_,_,rfl,?_⟩
      obtain ⟨t24,ht24,h⟩:=bnd h
      refine wk_r02_NatAdd H hS (Ent.sl mp1) (Ent.sl mp0) ht24 ?_;rintro a31 m31 c31 w hS
      refine ⟨_,_,_,rfl,?_⟩
      obtain rfl:=some_inj h
      exact hJ29 _ _ ⟨_,_,_,_,rfl,rfl,(hS.pick (A:=[_,_,_,_]) [3,0] rfl)⟩
     obtain rfl:=some_inj h
     exact hJ29 _ _ ⟨_,_,_,_,rfl,rfl,(hS.pick (A:=[_,_]) [1,0] rfl)⟩
    clear h29 hS
    rintro s w ⟨a26,m27,c28,t22,rfl,rfl,hS⟩
    have h:=c29
    clear c29
    try dsimp only
    exact hJ11 _ _ ⟨_,_,_,_,some_inj h,rfl,hS⟩
   obtain rfl:=some_inj h
   exact hJ11 _ _ ⟨_,_,_,_,rfl,rfl,(hS.pick (A:=[_,_]) [1,0] rfl)⟩
  clear h11 hS
  rintro s w ⟨a8,m9,c10,t7,rfl,rfl,hS⟩
  have h:=c11
  clear c11
  try dsimp only
  exact hJ5 _ _ ⟨_,_,_,_,some_inj h,rfl,hS⟩
 clear h5 hS
 rintro s w ⟨a2,m3,c4,t3,rfl,rfl,hS⟩
 have h:=c5
 clear c5
 try dsimp only
 obtain ⟨t25,ht25,h⟩:=bnd h
 refine wk_r02_NatBits H hS (Ent.sl mp1) ht25 ?_;rintro w hS
 refine ⟨_,rfl,?_⟩
 refine cond_s h ?_ ?_<;>intro hc h
 ·
  refine ⟨_,hS.cel mp0 rfl,?_⟩
  obtain ⟨t26,ht26,h⟩:=bnd h
  refine wk_r02_huge H hS  ht26 ?_;rintro z32 w rfl hS
  refine ⟨_,rfl,?_⟩
  cases some_inj h
  exact hK _ _ rfl (hS.pick (A:=[_,_]) [] rfl)
 obtain ⟨t27,ht27,h⟩:=bnd h
 obtain rfl:=lenE ht27 ((Ent.sl mp1).now (fun _ h=>h) hS)
 obtain ⟨o33,h33,c33⟩:=bnd h
 refine cutM_i (fun s w=>∃ (t28:Int),t28=o33∧s=(t28,())∧Ho w0 w ((cl r1 [.bool qa,.slice qc qd qf,.int .i64 qe] N.t_r02_Num)::L)) (fun J33 hJ33=>?_) ?_
 ·
  have h:=h33
  clear h33
  refine cond_s h ?_ ?_<;>intro hc h
  ·
   obtain ⟨t29,ht29,h⟩:=bnd h
   obtain ⟨q34x,gd,q34r⟩:=atE ht29
   refine idx_s ((Ent.sl mp1).now (fun _ h=>h) hS) q34x gd q34r ?_;intro b35 hb35
   refine ⟨_,rd_get ((Ent.sl mp1).now (fun _ h=>h) hS) hb35 q34x,?_⟩
   obtain rfl:=some_inj h
   exact hJ33 _ _ ⟨_,rfl,rfl,(hS.pick (A:=[_,_]) [0] rfl)⟩
  obtain rfl:=some_inj h
  exact hJ33 _ _ ⟨_,rfl,rfl,(hS.pick (A:=[_,_]) [0] rfl)⟩
 clear h33 hS
 rintro s w ⟨t28,rfl,rfl,hS⟩
 have h:=c33
 clear c33
 try dsimp only
 refine ⟨_,hS.cel mp0 rfl,?_⟩
 obtain ⟨t30,ht30,h⟩:=bnd h
 refine wk_r02_float H hS  ht30 ?_;rintro z36 w rfl hS
 refine ⟨_,rfl,?_⟩
 cases some_inj h
 exact hK _ _ rfl (hS.pick (A:=[_]) [] rfl)
end Go.Eng
