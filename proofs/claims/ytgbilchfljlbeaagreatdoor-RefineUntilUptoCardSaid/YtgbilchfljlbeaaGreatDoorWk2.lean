/-
 Each function comes to what its function of plain Lean says, printed by a program of the session. No condition.
-/
import Derived.Test.YtgbilchfljlbeaaGreatDoorWk1
set_option linter.all false
set_option maxRecDepth 100000
set_option maxHeartbeats 4000000
namespace Go.Eng
open Go
open Go.IntKind (i64 u64 u32 u8)
variable {N:Nums} {P:Program} (H:AllOk N P) {w0 w:World} {L:List It} {K:KV}
include H
theorem Dy0 {q0 qj qm vn q1 qo qu vk u0} (hS:Ho w0 w L) (qw:EF L vn q0 qj qm) (ve:EF L vk q1 qo qu) (h:Bb5 (List.map nf vn) (List.map nf vk)=some u0) (hK:∀ w1,Ho w0 w1 L→K (.int .i64 u0) w1):Aa1 P N.Ib8 #[.slice q0 qj qm,.slice q1 qo qu] w K:=by
 refine H.vector_fit q0 qj qm q1 qo qu w _ ?_
 unfold Cp1
 unfold Bb5 at h
 try dsimp only
 obtain ⟨t1,ht1,h⟩:=bnd h
 obtain rfl:=Bd5 ht1 (qw.now (fun _ h=>h) hS)
 obtain ⟨t2,ht2,h⟩:=bnd h
 obtain rfl:=Bd5 ht2 (ve.now (fun _ h=>h) hS)
 refine Aa2 h ?_ ?_<;>intro hc h
 ·
  cases Aa0 h
  exact hK _ hS
 obtain ⟨t3,ht3,h⟩:=bnd h
 obtain rfl:=Bd5 ht3 (qw.now (fun _ h=>h) hS)
 refine Aa2 h ?_ ?_<;>intro hc h
 ·
  cases Aa0 h
  exact hK _ hS
 cases Aa0 h
 exact hK _ hS
theorem Dp2 {q0 qj qm vn q1 qo qu vk} {q2:Value} {f2:Nat→Nat→Option Nat} {u0 u1} (hS:Ho w0 w L) (qw:EF L vn q0 qj qm) (ve:EF L vk q1 qo qu) (hf2:∀ (v0:Nat) (v1:Nat) (w:World) (L1:List It) (r1:Nat) (K:KV),(∀ e,e∈L→e∈L1)→f2 (nf v0) (nf v1)=some r1→Ho w0 w L1→(∀ (z:Nat) (w1:World),nf z=r1→Ho w0 w1 L1→K (.float .f64 z) w1)→fnM q2 fun g gp gq=>Aa1 P g (gp.toList++(([.float .f64 v0,.float .f64 v1]:List Value)++gq.toList)).toArray w K) (h:Ay4 (List.map nf vn) (List.map nf vk) f2=some (u0,u1)) (hK:∀ (a0:OA) (n0 c0:Nat) (rws0:List Nat) (w1:World),List.map nf rws0=u0→Ho w0 w1 ((sl a0 n0 c0 (List.map (Value.float .f64) rws0) N.Ii0)::L)→K (.tuple #[.slice a0 n0 c0,.int .i64 u1]) w1):Aa1 P N.Hx8 #[.slice q0 qj qm,.slice q1 qo qu,q2] w K:=by
 refine H.vector_each q0 qj qm q1 qo qu q2 w _ ?_
 unfold Ch7
 unfold Ay4 at h
 try dsimp only
 obtain ⟨t1,ht1,h⟩:=bnd h
 refine Dy0 H hS qw ve ht1 ?_;rintro w hS
 refine ⟨_,rfl,?_⟩
 refine Aa2 h ?_ ?_<;>intro hc h
 ·
  replace hS:=hS.none (α:=Nat) (enc:=(Value.float .f64)) (t:=N.Ii0)
  cases Aa0 h
  exact hK _ _ _ _ _ rfl hS
 obtain ⟨t2,ht2,h⟩:=bnd h
 obtain rfl:=Bd5 ht2 (qw.now (fun _ h=>h) hS)
 obtain ⟨t3,ht3,h⟩:=bnd h
 obtain ⟨rfl,kt3⟩:=mkF ht3
 refine Ft4 (enc:=(Value.float .f64)) hS kt3 rfl ?_;clear hS kt3;intro r1 w hS
 obtain ⟨t4,ht4,h⟩:=bnd h
 obtain rfl:=Bd5 ht4 ((qw.mono tl1).now (fun _ h=>h) hS)
 obtain ⟨o3,h3,c3⟩:=bnd h
 refine Ab0 (fun s w=>∃ (vx:List Nat),(List.map nf vx)=o3∧s=(())∧Ho w0 w ((sl (some ⟨r1,0,none⟩) (((qj:Int)).toNat) (((qj:Int)).toNat) (List.map (Value.float .f64) vx) N.Ii0)::L)) (fun J3 hJ3=>?_) ?_
 ·
  have h:=h3
  clear h3
  refine Ab6 (fun s w t=>∃ (t6:Int) (jd:List Nat),(t6,(List.map nf jd))=t∧s=(t6,())∧Ho w0 w ((sl (some ⟨r1,0,none⟩) (((qj:Int)).toNat) (((qj:Int)).toNat) (List.map (Value.float .f64) jd) N.Ii0)::L)) ?_ h ⟨_,_,rfl,rfl,hS⟩
  clear h hS
  rintro s w t X q ⟨t6,jd,rfl,rfl,hS⟩ h hX hO
  unfold Aj8 at h
  try dsimp only
  refine Aa2 h ?_ ?_<;>intro hc h
  ·
   obtain ⟨t8,ht8,h⟩:=bnd h
   obtain ⟨z5,rfl,q6x,yh,q6r⟩:=atF ht8
   refine Ac7 ((qw.mono tl1).now (fun _ h=>h) hS) q6x yh q6r ?_;intro b7 hb7
   refine ⟨_,Ab4 ((qw.mono tl1).now (fun _ h=>h) hS) hb7 q6x,?_⟩
   obtain ⟨t9,ht9,h⟩:=bnd h
   obtain ⟨z8,rfl,q9x,gh,q9r⟩:=atF ht9
   refine Ac7 ((ve.mono tl1).now (fun _ h=>h) hS) q9x gh q9r ?_;intro b10 hb10
   refine ⟨_,Ab4 ((ve.mono tl1).now (fun _ h=>h) hS) hb10 q9x,?_⟩
   refine Aa5 hS ?_;intro w hS
   obtain ⟨t10,ht10,h⟩:=bnd h
   refine hf2 _ _ _ _ _ _ tl1 ht10 hS ?_;rintro z11 w rfl hS
   refine ⟨_,rfl,?_⟩
   obtain ⟨t11,ht11,h⟩:=bnd h
   obtain ⟨z12,rfl,q13x,yw,q13r⟩:=atF ht11
   refine Bh6 ((Ent.sl mp0).now (fun _ h=>h) hS) q13x yw q13r ?_
   refine Aa5 hS ?_;intro w hS
   obtain ⟨t12,ht12,h⟩:=bnd h
   obtain rfl:=Hc6 ht12
   refine Bj9 hS rfl q13r ?_;intro w hS
   refine Aa5 hS ?_;intro w hS
   obtain rfl:=Aa0 h
   exact hX _ rfl _ _ ⟨_,_,rfl,rfl,hS⟩
  obtain rfl:=Aa0 h
  have h:=congrArg some (hO _ rfl)
  exact hJ3 _ _ ⟨_,Aa0 h,rfl,hS⟩
 clear h3 hS
 rintro s w ⟨vx,rfl,rfl,hS⟩
 have h:=c3
 clear c3
 try dsimp only
 cases Aa0 h
 exact hK _ _ _ _ _ rfl hS
theorem Dj2 {q0 q1 u0} (hS:Ho w0 w L)  (h:Bb4 (nf q0) (nf q1)=some u0) (hK:∀ (z0:Nat) (w1:World),nf z0=u0→Ho w0 w1 L→K (.float .f64 z0) w1):Aa1 P N.Hw3 #[.float .f64 q0,.float .f64 q1] w K:=by
 refine H.vector_Add_1 q0 q1 w _ ?_
 unfold Bz5
 unfold Bb4 at h
 try dsimp only
 obtain ⟨t1,ht1,h⟩:=bnd h
 refine Fg3 ht1 hS ?_;rintro z1 w rfl hS
 cases Aa0 h
 exact hK _ _ rfl hS
theorem Eh2 {q0 qj qm vn q1 qo qu vk u0 u1} (hS:Ho w0 w L) (qw:EF L vn q0 qj qm) (ve:EF L vk q1 qo qu) (hx:Bc7 (List.map nf vn) (List.map nf vk)=some (u0,u1)) (hK:∀ (a0:OA) (n0 c0:Nat) (rws0:List Nat) (w1:World),List.map nf rws0=u0→Ho w0 w1 ((sl a0 n0 c0 (List.map (Value.float .f64) rws0) N.Ii0)::L)→K (.tuple #[.slice a0 n0 c0,.int .i64 u1]) w1):Aa1 P N.Hz5 #[.slice q0 qj qm,.slice q1 qo qu] w K:=by
 refine H.vector_Add q0 qj qm q1 qo qu w _ ?_
 unfold Cs5
 unfold Bc7 at hx
 have h:=hx
 clear hx
 try dsimp only
 obtain ⟨⟨t1,t2⟩,ho1,h⟩:=bnd h
 refine Dp2 H hS qw ve (by intro v0 v1 w L1 r1 K hL hx hS hK;exact Dj2 H hS  hx hK) ho1 ?_;clear hS ho1;rintro a1 m1 c1 vk w rfl hS
 refine ⟨_,_,_,_,rfl,?_⟩
 cases Aa0 h
 exact hK _ _ _ _ _ rfl hS
theorem Dm3 {qb qc qd qa qf qr ql qk qh qi vh qq qs qt qz q2 qy vf vx q3 vm ye yu u0 u1} (hS:Ho w0 w L) (qp:EF L qr qd qa qf) (qv:EF L vh qk qh qi) (vg:EF L qz qq qs qt) (vw:EF L vx q2 qy vf) (jk:EF L yu q3 vm ye) (hG:Ent L (Bx7 N.Im4)) (h:Al7 qb qc (List.map nf qr) ql (List.map nf vh) (List.map nf qz) (List.map nf vx) (List.map nf yu)=some (u0,u1)) (hK:∀ (a0:OA) (n0 c0:Nat) (rws0:List Nat) (w1:World),List.map nf rws0=u0→Ho w0 w1 ((sl a0 n0 c0 (List.map (Value.float .f64) rws0) N.Ii0)::L)→K (.tuple #[.slice a0 n0 c0,.int .i64 u1]) w1):Aa1 P N.Hy0 #[.agg #[.int .i64 qb,.int .i64 qc,.slice qd qa qf],.agg #[.int .i64 ql,.slice qk qh qi,.slice qq qs qt],.slice q2 qy vf,.slice q3 vm ye] w K:=by
 refine H.refine_Step qb qc qd qa qf ql qk qh qi qq qs qt q2 qy vf q3 vm ye w _ ?_
 unfold Ce1
 unfold Al7 at h
 try dsimp only
 refine Aa9 hS ?_;intro r1 w hS
 refine Aa9 hS ?_;intro r2 w hS
 obtain ⟨o3,h3,c3⟩:=bnd h
 refine Ab0 (fun s w=>∃ (t1:Bool),t1=o3∧s=(t1,())∧Ho w0 w ((cl r2 [.int .i64 ql,.slice qk qh qi,.slice qq qs qt] N.Ik8)::(cl r1 [.int .i64 qb,.int .i64 qc,.slice qd qa qf] N.Ik5)::L)) (fun J3 hJ3=>?_) ?_
 ·
  have h:=h3
  clear h3
  refine ⟨_,hS.cel mp1 rfl,_,hS.cel mp1 rfl,_,_,_,hS.cel mp1 rfl,?_⟩
  obtain ⟨t2,ht2,h⟩:=bnd h
  refine Cj3 H hS (qp.mono tl2) (vw.mono tl2) (jk.mono tl2) ht2 ?_;rintro w hS
  refine ⟨_,rfl,?_⟩
  refine Aa2 h ?_ ?_<;>intro hc h
  ·
   refine ⟨_,hS.cel mp1 rfl,_,hS.cel mp1 rfl,_,_,_,hS.cel mp1 rfl,_,hS.cel mp0 rfl,_,_,_,hS.cel mp0 rfl,_,_,_,hS.cel mp0 rfl,?_⟩
   obtain ⟨t3,ht3,h⟩:=bnd h
   refine Cb7 H hS (qp.mono tl2) (qv.mono tl2) (vg.mono tl2) ht3 ?_;rintro w hS
   refine ⟨_,rfl,?_⟩
   exact hJ3 _ _ ⟨_,Aa0 h,rfl,hS⟩
  exact hJ3 _ _ ⟨_,Aa0 h,rfl,hS⟩
 clear h3 hS
 rintro s w ⟨t1,rfl,rfl,hS⟩
 have h:=c3
 clear c3
 try dsimp only
 refine Aa2 h ?_ ?_<;>intro hc h
 ·
  replace hS:=hS.none (α:=Nat) (enc:=(Value.float .f64)) (t:=N.Ii0)
  cases Aa0 h
  exact hK _ _ _ _ _ rfl (hS.pick (A:=[_,_,_]) [0] rfl)
 refine ⟨_,hS.cel mp1 rfl,_,hS.cel mp1 rfl,_,_,_,hS.cel mp1 rfl,?_⟩
 obtain ⟨⟨t4,t5⟩,ho4,h⟩:=bnd h
 refine Au4 H hS (qp.mono tl2) (vw.mono tl2) (jk.mono tl2) (hG.mono tl2) ho4 ?_;clear hS ho4;rintro a4 m4 c4 jd w rfl hS
 refine ⟨_,_,_,_,rfl,?_⟩
 refine Aa2 h ?_ ?_<;>intro hc h
 ·
  replace hS:=hS.none (α:=Nat) (enc:=(Value.float .f64)) (t:=N.Ii0)
  cases Aa0 h
  exact hK _ _ _ _ _ rfl (hS.pick (A:=[_,_,_,_]) [0] rfl)
 refine ⟨_,hS.cel mp1 rfl,_,_,_,hS.cel mp1 rfl,_,_,_,hS.cel mp1 rfl,?_⟩
 obtain ⟨⟨t6,t7⟩,ho6,h⟩:=bnd h
 refine By9 H hS (qv.mono tl3) (vg.mono tl3) (Ent.sl mp0) ho6 ?_;clear hS ho6;rintro a5 m5 c5 jm w rfl hS
 refine ⟨_,_,_,_,rfl,?_⟩
 refine Aa2 h ?_ ?_<;>intro hc h
 ·
  replace hS:=hS.none (α:=Nat) (enc:=(Value.float .f64)) (t:=N.Ii0)
  cases Aa0 h
  exact hK _ _ _ _ _ rfl (hS.pick (A:=[_,_,_,_,_]) [0] rfl)
 obtain ⟨⟨t8,t9⟩,ho8,h⟩:=bnd h
 refine Eh2 H hS (vw.mono tl4) (Ent.sl mp0) ho8 ?_;clear hS ho8;rintro a6 m6 c6 yi w rfl hS
 refine ⟨_,_,_,_,rfl,?_⟩
 obtain ⟨t10,ht10,h⟩:=bnd h
 obtain rfl:(List.map (List.map nf) ([yi]:List (List Nat)))=t10:=Aa0 ht10
 refine Ap0 (ks:=([(a6,m6,c6)]:List Hd)) (enc:=hdV) (m:=1) hS rfl rfl ?_;intro r7 w hS
 obtain ⟨t11,ht11,h⟩:=bnd h
 refine Ao8 H hS (Ent.sl mp0) (.cons (Ent.sl mp1) .nil) ht11 ?_;rintro w hS
 refine ⟨_,rfl,?_⟩
 refine Aa2 h ?_ ?_<;>intro hc h
 ·
  replace hS:=hS.none (α:=Nat) (enc:=(Value.float .f64)) (t:=N.Ii0)
  cases Aa0 h
  exact hK _ _ _ _ _ rfl (hS.pick (A:=[_,_,_,_,_,_,_]) [0] rfl)
 cases Aa0 h
 exact hK _ _ _ _ _ rfl (hS.pick (A:=[_,_,_,_,_,_]) [1] rfl)
theorem Br0 {qb qc qd qa qf qr ql qk qh qi vh qq qs qt qz q2 qy vf vx q3 u0 u1 u2} (hS:Ho w0 w L) (qp:EF L qr qd qa qf) (qv:EF L vh qk qh qi) (vg:EF L qz qq qs qt) (vw:EF L vx q2 qy vf) (hG:Ent L (Bx7 N.Im4)) (h:Ap9 qb qc (List.map nf qr) ql (List.map nf vh) (List.map nf qz) (List.map nf vx) q3=some (u0,u1,u2)) (hK:∀ (a0:OA) (n0 c0:Nat) (rws0:List Nat) (w1:World),List.map nf rws0=u0→Ho w0 w1 ((sl a0 n0 c0 (List.map (Value.float .f64) rws0) N.Ii0)::L)→K (.tuple #[.slice a0 n0 c0,.int .i64 u1,.int .i64 u2]) w1):Aa1 P N.Hw0 #[.agg #[.int .i64 qb,.int .i64 qc,.slice qd qa qf],.agg #[.int .i64 ql,.slice qk qh qi,.slice qq qs qt],.slice q2 qy vf,.int .i64 q3] w K:=by
 refine H.refine_Until qb qc qd qa qf ql qk qh qi qq qs qt q2 qy vf q3 w _ ?_
 unfold By7
 unfold Ap9 at h
 try dsimp only
 refine Aa9 hS ?_;intro r1 w hS
 refine Aa9 hS ?_;intro r2 w hS
 obtain ⟨o3,h3,c3⟩:=bnd h
 refine Ab0 (fun s w=>∃ (t1:Bool),t1=o3∧s=(t1,())∧Ho w0 w ((cl r2 [.int .i64 ql,.slice qk qh qi,.slice qq qs qt] N.Ik8)::(cl r1 [.int .i64 qb,.int .i64 qc,.slice qd qa qf] N.Ik5)::L)) (fun J3 hJ3=>?_) ?_
 ·
  have h:=h3
  clear h3
  refine Aa2 h ?_ ?_<;>intro hc h
  ·
   exact hJ3 _ _ ⟨_,Aa0 h,rfl,hS⟩
  exact hJ3 _ _ ⟨_,Aa0 h,rfl,hS⟩
 clear h3 hS
 rintro s w ⟨t1,rfl,rfl,hS⟩
 have h:=c3
 clear c3
 try dsimp only
 refine Aa2 h ?_ ?_<;>intro hc h
 ·
  replace hS:=hS.none (α:=Nat) (enc:=(Value.float .f64)) (t:=N.Ii0)
  cases Aa0 h
  exact hK _ _ _ _ _ rfl (hS.pick (A:=[_,_,_]) [0] rfl)
 obtain ⟨o4,h4,c4⟩:=bnd h
 refine Ab0 (fun s w=>∃ (t2:Bool),t2=o4∧s=(t2,())∧Ho w0 w ((cl r2 [.int .i64 ql,.slice qk qh qi,.slice qq qs qt] N.Ik8)::(cl r1 [.int .i64 qb,.int .i64 qc,.slice qd qa qf] N.Ik5)::L)) (fun J4 hJ4=>?_) ?_
 ·
  have h:=h4
  clear h4
  refine ⟨_,hS.cel mp1 rfl,_,hS.cel mp1 rfl,_,_,_,hS.cel mp1 rfl,_,hS.cel mp0 rfl,_,_,_,hS.cel mp0 rfl,_,_,_,hS.cel mp0 rfl,?_⟩
  obtain ⟨t3,ht3,h⟩:=bnd h
  refine Cb7 H hS (qp.mono tl2) (qv.mono tl2) (vg.mono tl2) ht3 ?_;rintro w hS
  refine ⟨_,rfl,?_⟩
  refine Aa2 h ?_ ?_<;>intro hc h
  ·
   obtain ⟨t4,ht4,h⟩:=bnd h
   obtain rfl:=Bd5 ht4 ((vw.mono tl2).now (fun _ h=>h) hS)
   refine ⟨_,hS.cel mp1 rfl,?_⟩
   exact hJ4 _ _ ⟨_,Aa0 h,rfl,hS⟩
  exact hJ4 _ _ ⟨_,Aa0 h,rfl,hS⟩
 clear h4 hS
 rintro s w ⟨t2,rfl,rfl,hS⟩
 have h:=c4
 clear c4
 try dsimp only
 refine Aa2 h ?_ ?_<;>intro hc h
 ·
  replace hS:=hS.none (α:=Nat) (enc:=(Value.float .f64)) (t:=N.Ii0)
  cases Aa0 h
  exact hK _ _ _ _ _ rfl (hS.pick (A:=[_,_,_]) [0] rfl)
 refine ⟨_,_,_,hS.cel mp1 rfl,?_⟩
 obtain ⟨t5,ht5,h⟩:=bnd h
 obtain rfl:(List.map (List.map nf) ([qr,vx]:List (List Nat)))=t5:=Aa0 ht5
 refine Ap0 (ks:=([(qd,qa,qf),(q2,qy,vf)]:List Hd)) (enc:=hdV) (m:=2) hS rfl rfl ?_;intro r5 w hS
 obtain ⟨t6,ht6,h⟩:=bnd h
 refine Ao8 H hS (Ent.sl mp0) (.cons (qp.mono tl3) (.cons (vw.mono tl3) .nil)) ht6 ?_;rintro w hS
 refine ⟨_,rfl,?_⟩
 refine Aa2 h ?_ ?_<;>intro hc h
 ·
  replace hS:=hS.none (α:=Nat) (enc:=(Value.float .f64)) (t:=N.Ii0)
  cases Aa0 h
  exact hK _ _ _ _ _ rfl (hS.pick (A:=[_,_,_,_]) [0] rfl)
 refine ⟨_,hS.cel mp1 rfl,_,_,_,hS.cel mp1 rfl,_,_,_,hS.cel mp1 rfl,?_⟩
 obtain ⟨⟨t7,t8⟩,ho7,h⟩:=bnd h
 refine By9 H hS (qv.mono tl3) (vg.mono tl3) (vw.mono tl3) ho7 ?_;clear hS ho7;rintro a6 m6 c6 yi w rfl hS
 refine ⟨_,_,_,_,rfl,?_⟩
 refine Aa2 h ?_ ?_<;>intro hc h
 ·
  replace hS:=hS.none (α:=Nat) (enc:=(Value.float .f64)) (t:=N.Ii0)
  cases Aa0 h
  exact hK _ _ _ _ _ rfl (hS.pick (A:=[_,_,_,_,_]) [0] rfl)
 obtain ⟨t9,ht9,h⟩:=bnd h
 obtain rfl:(List.map (List.map nf) ([yi]:List (List Nat)))=t9:=Aa0 ht9
 refine Ap0 (ks:=([(a6,m6,c6)]:List Hd)) (enc:=hdV) (m:=1) hS rfl rfl ?_;intro r7 w hS
 obtain ⟨t10,ht10,h⟩:=bnd h
 refine Ao8 H hS (Ent.sl mp0) (.cons (Ent.sl mp1) .nil) ht10 ?_;rintro w hS
 refine ⟨_,rfl,?_⟩
 refine Aa2 h ?_ ?_<;>intro hc h
 ·
  replace hS:=hS.none (α:=Nat) (enc:=(Value.float .f64)) (t:=N.Ii0)
  cases Aa0 h
  exact hK _ _ _ _ _ rfl (hS.pick (A:=[_,_,_,_,_,_]) [0] rfl)
 refine ⟨_,hS.cel mp4 rfl,_,hS.cel mp4 rfl,_,_,_,hS.cel mp4 rfl,?_⟩
 obtain ⟨⟨t11,t12⟩,ho11,h⟩:=bnd h
 refine Au4 H hS (qp.mono tl5) (Ent.sl mp1) (vw.mono tl5) (hG.mono tl5) ho11 ?_;clear hS ho11;rintro a8 m8 c8 jl w rfl hS
 refine ⟨_,_,_,_,rfl,?_⟩
 refine Aa2 h ?_ ?_<;>intro hc h
 ·
  replace hS:=hS.none (α:=Nat) (enc:=(Value.float .f64)) (t:=N.Ii0)
  cases Aa0 h
  exact hK _ _ _ _ _ rfl (hS.pick (A:=[_,_,_,_,_,_,_]) [0] rfl)
 obtain ⟨t13,ht13,h⟩:=bnd h
 refine Bk0 H hS (Ent.sl mp0) ht13 ?_;rintro z9 w rfl hS
 refine ⟨_,rfl,?_⟩
 obtain ⟨o14,h14,c14⟩:=bnd h
 refine Ab0 (fun s w=>∃ (a10:OA) (m11:Nat) (c12:Nat) (yr:List Nat),.inl (List.map nf yr)=o14∧s=((a10,m11,c12),())∧Ho w0 w ((sl a10 m11 c12 (List.map (Value.float .f64) yr) N.Ii0)::L)) (fun J14 hJ14=>?_) ?_
 ·
  have h:=h14
  clear h14
  refine Ab6 (fun s w t=>∃ (z15:Nat) (t16:Int) (a16:OA) (m17:Nat) (c18:Nat) (yt:List Nat),((nf z15),t16,(List.map nf yt))=t∧s=((a16,m17,c18),z15,t16,())∧Ho w0 w ((cl r2 [.int .i64 ql,.slice qk qh qi,.slice qq qs qt] N.Ik8)::(cl r1 [.int .i64 qb,.int .i64 qc,.slice qd qa qf] N.Ik5)::(sl a16 m17 c18 (List.map (Value.float .f64) yt) N.Ii0)::L)) ?_ h ⟨_,_,_,_,_,_,rfl,rfl,(hS.pick (A:=[_,_,_,_,_,_]) [4,4,2] rfl)⟩
  clear h hS
  rintro s w t X q ⟨z15,t16,a16,m17,c18,yt,rfl,rfl,hS⟩ h hX hO
  unfold Ag5 at h
  try dsimp only
  refine Aa2 h ?_ ?_<;>intro hc h
  ·
   refine ⟨_,hS.cel mp1 rfl,_,hS.cel mp1 rfl,_,_,_,hS.cel mp1 rfl,_,hS.cel mp0 rfl,_,_,_,hS.cel mp0 rfl,_,_,_,hS.cel mp0 rfl,?_⟩
   obtain ⟨⟨t18,t19⟩,ho18,h⟩:=bnd h
   refine Dm3 H hS (qp.mono tl3) (qv.mono tl3) (vg.mono tl3) (Ent.sl mp2) (vw.mono tl3) (hG.mono tl3) ho18 ?_;clear hS ho18;rintro a20 m20 c20 zc w rfl hS
   refine ⟨_,_,_,_,rfl,?_⟩
   refine Aa2 h ?_ ?_<;>intro hc h
   ·
    obtain rfl:=Aa0 h
    have h:=congrArg some (hO _ rfl)
    obtain rfl:=Aa0 h
    have h:=c14
    cases Aa0 h
    exact hK _ _ _ _ _ rfl (hS.pick (A:=[_,_,_,_]) [3] rfl)
   refine ⟨_,hS.cel mp2 rfl,_,hS.cel mp2 rfl,_,_,_,hS.cel mp2 rfl,?_⟩
   obtain ⟨⟨t20,t21⟩,ho20,h⟩:=bnd h
   refine Au4 H hS (qp.mono tl4) (Ent.sl mp0) (vw.mono tl4) (hG.mono tl4) ho20 ?_;clear hS ho20;rintro a21 m21 c21 jo w rfl hS
   refine ⟨_,_,_,_,rfl,?_⟩
   refine Aa2 h ?_ ?_<;>intro hc h
   ·
    obtain ⟨t22,ht22,h⟩:=bnd h
    refine Bk0 H hS (Ent.sl mp0) ht22 ?_;rintro z22 w rfl hS
    refine ⟨_,rfl,?_⟩
    obtain ⟨t23,ht23,h⟩:=bnd h
    obtain rfl:=Hi8 ht23
    refine Aa2 h ?_ ?_<;>intro hc h
    ·
     obtain rfl:=Aa0 h
     have h:=congrArg some (hO _ rfl)
     obtain rfl:=Aa0 h
     have h:=c14
     cases Aa0 h
     exact hK _ _ _ _ _ rfl (hS.pick (A:=[_,_,_,_,_]) [4] rfl)
    obtain ⟨t24,ht24,h⟩:=bnd h
    refine Bk0 H hS (Ent.sl mp0) ht24 ?_;rintro z23 w rfl hS
    refine ⟨_,rfl,?_⟩
    obtain rfl:=Aa0 h
    exact hX _ rfl _ _ ⟨_,_,_,_,_,_,rfl,rfl,(hS.pick (A:=[_,_,_,_,_]) [2,2,1] rfl)⟩
   obtain rfl:=Aa0 h
   have h:=congrArg some (hO _ rfl)
   obtain rfl:=Aa0 h
   have h:=c14
   cases Aa0 h
   exact hK _ _ _ _ _ rfl (hS.pick (A:=[_,_,_,_,_]) [4] rfl)
  obtain rfl:=Aa0 h
  have h:=congrArg some (hO _ rfl)
  obtain rfl:=Aa0 h
  exact hJ14 _ _ ⟨_,_,_,_,rfl,rfl,(hS.pick (A:=[_,_,_]) [2] rfl)⟩
 clear h14 hS
 rintro s w ⟨a10,m11,c12,yr,rfl,rfl,hS⟩
 have h:=c14
 clear c14
 try dsimp only
 cases Aa0 h
 exact hK _ _ _ _ _ rfl hS
theorem Ge8 {q0 q1 u0} (hS:Ho w0 w L)  (h:Dy3 (nf q0) (nf q1)=some u0) (hK:∀ w1,Ho w0 w1 L→K (.bool u0) w1):Aa1 P N.Ik2 #[.float .f64 q0,.float .f64 q1] w K:=by
 refine H.k_Like q0 q1 w _ ?_
 unfold Fh3
 unfold Dy3 at h
 try dsimp only
 obtain ⟨t1,ht1,h⟩:=bnd h
 obtain rfl:=Bx5 ht1
 refine Aa2 h ?_ ?_<;>intro hc h
 ·
  obtain ⟨t2,ht2,h⟩:=bnd h
  obtain rfl:=Dp6 ht2
  refine Aa2 h ?_ ?_<;>intro hc h
  ·
   obtain ⟨t3,ht3,h⟩:=bnd h
   obtain rfl:=Dp6 ht3
   cases Aa0 h
   exact hK _ hS
  cases Aa0 h
  exact hK _ hS
 cases Aa0 h
 exact hK _ hS
theorem Bx8 {q0 qj qm vn q1 qo qu vk u0} (hS:Ho w0 w L) (qw:EF L vn q0 qj qm) (ve:EF L vk q1 qo qu) (h:Bd8 (List.map nf vn) (List.map nf vk)=some u0) (hK:∀ w1,Ho w0 w1 L→K (.bool u0) w1):Aa1 P N.Hx5 #[.slice q0 qj qm,.slice q1 qo qu] w K:=by
 refine H.k_LikeReals q0 qj qm q1 qo qu w _ ?_
 unfold Ce4
 unfold Bd8 at h
 try dsimp only
 obtain ⟨t1,ht1,h⟩:=bnd h
 obtain rfl:=Bd5 ht1 (qw.now (fun _ h=>h) hS)
 obtain ⟨t2,ht2,h⟩:=bnd h
 obtain rfl:=Bd5 ht2 (ve.now (fun _ h=>h) hS)
 refine Aa2 h ?_ ?_<;>intro hc h
 ·
  cases Aa0 h
  exact hK _ hS
 obtain ⟨o1,h1,c1⟩:=bnd h
 refine Ab0 (fun s w =>  .inl ()=o1∧s=(())∧Ho w0 w L) (fun J1 hJ1=>?_) ?_
 ·
  have h:=h1
  clear h1
  refine Ab6 (fun s w t=>∃ (t3:Int),t3=t∧s=(t3,())∧Ho w0 w L) ?_ h ⟨_,rfl,rfl,hS⟩
  clear h hS
  rintro s w t X q ⟨t3,rfl,rfl,hS⟩ h hX hO
  unfold Bp9 at h
  try dsimp only
  obtain ⟨t4,ht4,h⟩:=bnd h
  obtain rfl:=Bd5 ht4 (qw.now (fun _ h=>h) hS)
  refine Aa2 h ?_ ?_<;>intro hc h
  ·
   obtain ⟨t5,ht5,h⟩:=bnd h
   obtain ⟨z2,rfl,q3x,vm,q3r⟩:=atF ht5
   refine Ac7 (qw.now (fun _ h=>h) hS) q3x vm q3r ?_;intro b4 hb4
   refine ⟨_,Ab4 (qw.now (fun _ h=>h) hS) hb4 q3x,?_⟩
   obtain ⟨t6,ht6,h⟩:=bnd h
   obtain ⟨z5,rfl,q6x,yh,q6r⟩:=atF ht6
   refine Ac7 (ve.now (fun _ h=>h) hS) q6x yh q6r ?_;intro b7 hb7
   refine ⟨_,Ab4 (ve.now (fun _ h=>h) hS) hb7 q6x,?_⟩
   refine Aa5 hS ?_;intro w hS
   obtain ⟨t7,ht7,h⟩:=bnd h
   refine Ge8 H hS  ht7 ?_;rintro w hS
   refine ⟨_,rfl,?_⟩
   refine Aa5 hS ?_;intro w hS
   refine Aa2 h ?_ ?_<;>intro hc h
   ·
    obtain rfl:=Aa0 h
    have h:=congrArg some (hO _ rfl)
    obtain rfl:=Aa0 h
    have h:=c1
    cases Aa0 h
    exact hK _ hS
   obtain rfl:=Aa0 h
   exact hX _ rfl _ _ ⟨_,rfl,rfl,hS⟩
  obtain rfl:=Aa0 h
  have h:=congrArg some (hO _ rfl)
  exact hJ1 _ _ ⟨Aa0 h,rfl,hS⟩
 clear h1 hS
 rintro s w ⟨rfl,rfl,hS⟩
 have h:=c1
 clear c1
 try dsimp only
 cases Aa0 h
 exact hK _ hS
theorem En9  {u0} (hS:Ho w0 w L) (hG:Ent L (Bx7 N.Im4)) (h:Bo2  = some u0) (hK:∀ w1,Ho w0 w1 L→K (.bool u0) w1):Aa1 P N.Ie4 #[] w K:=by
 refine H.w14_awake  w _ ?_
 unfold Cz4
 unfold Bo2 at h
 try dsimp only
 obtain ⟨⟨t1,t2,t3,t4,t5,t6⟩,ho1,h⟩:=bnd h
 refine Ft1 H hS  ho1 ?_;clear hS ho1;rintro a1 m1 c1 vk a2 m2 c2 vx a3 m3 c3 yu w rfl rfl rfl hS
 refine ⟨_,_,_,_,_,_,_,_,_,_,_,_,rfl,?_⟩
 refine Aa9 hS ?_;intro r4 w hS
 refine Aa9 hS ?_;intro r5 w hS
 replace hS:=ro1 hS
 refine Aa4 hS rfl rfl ?_;intro w hS
 refine Aa4 hS rfl rfl ?_;intro w hS
 refine Aa4 hS rfl rfl ?_;intro w hS
 replace hS:=ro1 hS
 refine Aa4 hS rfl rfl ?_;intro w hS
 refine Aa4 hS rfl rfl ?_;intro w hS
 refine Aa4 hS rfl rfl ?_;intro w hS
 refine ⟨_,hS.cel mp1 rfl,_,hS.cel mp1 rfl,_,_,_,hS.cel mp1 rfl,?_⟩
 obtain ⟨t7,ht7,h⟩:=bnd h
 obtain rfl:(List.map nf ([4607182418800017408,4607182418800017408]:List Nat))=t7:=Aa0 ht7
 refine Ap0 (ks:=[4607182418800017408,4607182418800017408]) (enc:=(Value.float .f64)) (m:=2) hS rfl rfl ?_;intro r6 w hS
 obtain ⟨t8,ht8,h⟩:=bnd h
 obtain rfl:(List.map nf ([4618441417868443648,4616189618054758400]:List Nat))=t8:=Aa0 ht8
 refine Ap0 (ks:=[4618441417868443648,4616189618054758400]) (enc:=(Value.float .f64)) (m:=2) hS rfl rfl ?_;intro r7 w hS
 obtain ⟨⟨t9,t10⟩,ho9,h⟩:=bnd h
 refine Au4 H hS (Ent.sl mp4) (Ent.sl mp1) (Ent.sl mp0) (hG.mono tl7) ho9 ?_;clear hS ho9;rintro a8 m8 c8 jl w rfl hS
 refine ⟨_,_,_,_,rfl,?_⟩
 refine ⟨_,hS.cel mp4 rfl,_,hS.cel mp4 rfl,_,_,_,hS.cel mp4 rfl,_,hS.cel mp3 rfl,_,_,_,hS.cel mp3 rfl,_,_,_,hS.cel mp3 rfl,?_⟩
 obtain ⟨t11,ht11,h⟩:=bnd h
 obtain rfl:(List.map nf ([4617315517961601024,4616189618054758400]:List Nat))=t11:=Aa0 ht11
 refine Ap0 (ks:=[4617315517961601024,4616189618054758400]) (enc:=(Value.float .f64)) (m:=2) hS rfl rfl ?_;intro r9 w hS
 obtain ⟨⟨t12,t13,t14⟩,ho12,h⟩:=bnd h
 refine Br0 H hS (Ent.sl mp6) (Ent.sl mp7) (Ent.sl mp8) (Ent.sl mp0) (hG.mono tl9) ho12 ?_;clear hS ho12;rintro a10 m10 c10 bf w rfl hS
 refine ⟨_,_,_,_,_,rfl,?_⟩
 obtain ⟨t15,ht15,h⟩:=bnd h
 obtain rfl:(List.map nf ([4607182418800017408,4607182418800017408]:List Nat))=t15:=Aa0 ht15
 refine Ap0 (ks:=[4607182418800017408,4607182418800017408]) (enc:=(Value.float .f64)) (m:=2) hS rfl rfl ?_;intro r11 w hS
 obtain ⟨t16,ht16,h⟩:=bnd h
 obtain rfl:(List.map nf ([4877398396442247168,4607182418800017408]:List Nat))=t16:=Aa0 ht16
 refine Ap0 (ks:=[4877398396442247168,4607182418800017408]) (enc:=(Value.float .f64)) (m:=2) hS rfl rfl ?_;intro r12 w hS
 obtain ⟨t17,ht17,h⟩:=bnd h
 obtain rfl:(List.map nf ([4877398396442247168]:List Nat))=t17:=Aa0 ht17
 refine Ap0 (ks:=[4877398396442247168]) (enc:=(Value.float .f64)) (m:=1) hS rfl rfl ?_;intro r13 w hS
 obtain ⟨⟨t18,t19⟩,ho18,h⟩:=bnd h
 refine Au4 H hS (Ent.sl mp2) (Ent.sl mp1) (Ent.sl mp0) (hG.mono Ht2) ho18 ?_;clear hS ho18;rintro a14 m14 c14 jp w rfl hS
 refine ⟨_,_,_,_,rfl,?_⟩
 refine Aa2 h ?_ ?_<;>intro hc h
 ·
  refine Aa2 h ?_ ?_<;>intro hc h
  ·
   refine Aa2 h ?_ ?_<;>intro hc h
   ·
    obtain ⟨t20,ht20,h⟩:=bnd h
    obtain rfl:(List.map nf ([4607182418800017408,0]:List Nat))=t20:=Aa0 ht20
    refine Ap0 (ks:=[4607182418800017408,0]) (enc:=(Value.float .f64)) (m:=2) hS rfl rfl ?_;intro r15 w hS
    obtain ⟨t21,ht21,h⟩:=bnd h
    refine Bx8 H hS (Ent.sl mp7) (Ent.sl mp0) ht21 ?_;rintro w hS
    refine ⟨_,rfl,?_⟩
    refine Aa2 h ?_ ?_<;>intro hc h
    ·
     obtain ⟨t22,ht22,h⟩:=bnd h
     obtain rfl:=Bd5 ht22 ((Ent.sl mp5).now (fun _ h=>h) hS)
     refine Aa2 h ?_ ?_<;>intro hc h
     ·
      obtain ⟨t23,ht23,h⟩:=bnd h
      obtain ⟨z16,rfl,q17x,ju,q17r⟩:=atF ht23
      refine Ac7 ((Ent.sl mp5).now (fun _ h=>h) hS) q17x ju q17r ?_;intro b18 hb18
      refine ⟨_,Ab4 ((Ent.sl mp5).now (fun _ h=>h) hS) hb18 q17x,?_⟩
      obtain ⟨t24,ht24,h⟩:=bnd h
      obtain rfl:=Ea8 ht24
      refine Aa2 h ?_ ?_<;>intro hc h
      ·
       obtain ⟨t25,ht25,h⟩:=bnd h
       obtain ⟨z19,rfl,q20x,jz,q20r⟩:=atF ht25
       refine Ac7 ((Ent.sl mp5).now (fun _ h=>h) hS) q20x jz q20r ?_;intro b21 hb21
       refine ⟨_,Ab4 ((Ent.sl mp5).now (fun _ h=>h) hS) hb21 q20x,?_⟩
       obtain ⟨t26,ht26,h⟩:=bnd h
       obtain rfl:=Cm8 ht26
       refine Aa2 h ?_ ?_<;>intro hc h
       ·
        refine Aa2 h ?_ ?_<;>intro hc h
        ·
         obtain ⟨t27,ht27,h⟩:=bnd h
         obtain rfl:(List.map nf ([13830554455654793216]:List Nat))=t27:=Aa0 ht27
         refine Ap0 (ks:=[13830554455654793216]) (enc:=(Value.float .f64)) (m:=1) hS rfl rfl ?_;intro r22 w hS
         obtain ⟨t28,ht28,h⟩:=bnd h
         refine Bx8 H hS (Ent.sl mp2) (Ent.sl mp0) ht28 ?_;rintro w hS
         refine ⟨_,rfl,?_⟩
         cases Aa0 h
         exact hK _ (hS.pick (A:=[_,_,_,_,_,_,_,_,_,_,_,_,_,_,_,_]) [] rfl)
        cases Aa0 h
        exact hK _ (hS.pick (A:=[_,_,_,_,_,_,_,_,_,_,_,_,_,_,_]) [] rfl)
       cases Aa0 h
       exact hK _ (hS.pick (A:=[_,_,_,_,_,_,_,_,_,_,_,_,_,_,_]) [] rfl)
      cases Aa0 h
      exact hK _ (hS.pick (A:=[_,_,_,_,_,_,_,_,_,_,_,_,_,_,_]) [] rfl)
     cases Aa0 h
     exact hK _ (hS.pick (A:=[_,_,_,_,_,_,_,_,_,_,_,_,_,_,_]) [] rfl)
    cases Aa0 h
    exact hK _ (hS.pick (A:=[_,_,_,_,_,_,_,_,_,_,_,_,_,_,_]) [] rfl)
   cases Aa0 h
   exact hK _ (hS.pick (A:=[_,_,_,_,_,_,_,_,_,_,_,_,_,_]) [] rfl)
  cases Aa0 h
  exact hK _ (hS.pick (A:=[_,_,_,_,_,_,_,_,_,_,_,_,_,_]) [] rfl)
 cases Aa0 h
 exact hK _ (hS.pick (A:=[_,_,_,_,_,_,_,_,_,_,_,_,_,_]) [] rfl)
theorem Ep2 {qb qc qd qa qf qr u0} (hS:Ho w0 w L) (qp:EF L qr qd qa qf) (h:Bg6 qb qc (List.map nf qr)=some u0) (hK:∀ w1,Ho w0 w1 L→K (.bool u0) w1):Aa1 P N.Id6 #[.agg #[.int .i64 qb,.int .i64 qc,.slice qd qa qf]] w K:=by
 refine H.w14_great qb qc qd qa qf w _ ?_
 unfold Db6
 unfold Bg6 at h
 try dsimp only
 refine Aa9 hS ?_;intro r1 w hS
 refine ⟨_,_,_,hS.cel mp0 rfl,?_⟩
 obtain ⟨t1,ht1,h⟩:=bnd h
 obtain rfl:=Bd5 ht1 ((qp.mono tl1).now (fun _ h=>h) hS)
 cases Aa0 h
 exact hK _ (hS.pick (A:=[_]) [] rfl)
theorem Ac1 {q0 qj qm vn u0} (hS:Ho w0 w L) (qw:EF L vn q0 qj qm) (hx:Am0 (List.map nf vn)=some u0) (hK:∀ (r0:Nat) (w1:World),(List.map nf vn)=u0→Ho w0 w1 ((sl (some ⟨r0,0,none⟩) (qj+12) (qj+12) (List.map (Value.float .f64) (vn++Bf3)) N.Ii0)::L)→K (.slice (some ⟨r0,0,none⟩) qj (qj+12)) w1):Aa1 P N.Hy1 #[.slice q0 qj qm] w K:=by
 unfold Am0 at hx
 have hd:(List.map nf vn).length≤4294967000:=by
  rcases Nat.lt_or_ge 4294967000 (List.map nf vn).length with h | h
  ·
   rw [decide_eq_false (by omega)] at hx;cases hx
  exact h
 rw [decide_eq_true hd] at hx
 have hx:=Aa0 hx
 have r0:=(qw.now (fun _ h=>h) hS).reals
 refine (Fd0 H r0 (by have:=r0.len;simp at hd;omega)).mono ?_
 rintro _ w1 ⟨r,M,rfl,h1,hm⟩
 exact hK r w1 hx (Ho.gain hS h1 hm (by have:=r0.len;simp [Bf3];omega))
theorem Aq6 {qb qc qd qa qf qr u0 u1 u2} (hS:Ho w0 w L) (qp:EF L qr qd qa qf) (h:Ba9 qb qc (List.map nf qr)=some (u0,u1,u2)) (hK:∀ (r2:Nat) (w1:World),(List.map nf qr)=u2→Ho w0 w1 ((sl (some ⟨r2,0,none⟩) (qa+12) (qa+12) (List.map (Value.float .f64) (qr++Bf3)) N.Ii0)::L)→K (.agg #[.int .i64 u0,.int .i64 u1,.slice (some ⟨r2,0,none⟩) qa (qa+12)]) w1):Aa1 P N.Hw1 #[.agg #[.int .i64 qb,.int .i64 qc,.slice qd qa qf]] w K:=by
 refine H.k_LentMatrix qb qc qd qa qf w _ ?_
 unfold By4
 unfold Ba9 at h
 try dsimp only
 refine Aa9 hS ?_;intro r1 w hS
 refine Aa9 hS ?_;intro r2 w hS
 refine ⟨_,_,_,hS.cel mp1 rfl,?_⟩
 obtain ⟨t1,ht1,h⟩:=bnd h
 refine Ac1 H hS (qp.mono tl2) ht1 ?_;rintro r3 w rfl hS
 refine ⟨_,_,_,rfl,?_⟩
 replace hS:=ro2 hS
 refine Aa4 hS rfl rfl ?_;intro w hS
 refine ⟨_,hS.cel mp0 rfl,_,hS.cel mp0 rfl,_,_,_,hS.cel mp0 rfl,?_⟩
 replace hS:=ro2 hS
 refine Aa4 hS rfl rfl ?_;intro w hS
 refine Aa4 hS rfl rfl ?_;intro w hS
 refine Aa4 hS rfl rfl ?_;intro w hS
 refine ⟨_,hS.cel mp0 rfl,_,hS.cel mp0 rfl,_,_,_,hS.cel mp0 rfl,?_⟩
 cases Aa0 h
 exact hK _ _ rfl (hS.pick (A:=[_,_,_]) [2] rfl)
theorem Ae4 {qb qc qe qg qx qd qa qf qr u0 u1 u2} (hS:Ho w0 w L) (qn:EF L qx qc qe qg) (qp:EF L qr qd qa qf) (h:Bb0 qb (List.map nf qx) (List.map nf qr)=some (u0,u1,u2)) (hK:∀ (r1:Nat) (r2:Nat) (w1:World),(List.map nf qx)=u1→(List.map nf qr)=u2→Ho w0 w1 ((sl (some ⟨r1,0,none⟩) (qe+12) (qe+12) (List.map (Value.float .f64) (qx++Bf3)) N.Ii0)::(sl (some ⟨r2,0,none⟩) (qa+12) (qa+12) (List.map (Value.float .f64) (qr++Bf3)) N.Ii0)::L)→K (.agg #[.int .i64 u0,.slice (some ⟨r1,0,none⟩) qe (qe+12),.slice (some ⟨r2,0,none⟩) qa (qa+12)]) w1):Aa1 P N.Hv7 #[.agg #[.int .i64 qb,.slice qc qe qg,.slice qd qa qf]] w K:=by
 refine H.k_LentFactor qb qc qe qg qd qa qf w _ ?_
 unfold Ca5
 unfold Bb0 at h
 try dsimp only
 refine Aa9 hS ?_;intro r1 w hS
 refine Aa9 hS ?_;intro r2 w hS
 refine ⟨_,_,_,hS.cel mp1 rfl,?_⟩
 obtain ⟨t1,ht1,h⟩:=bnd h
 refine Ac1 H hS (qn.mono tl2) ht1 ?_;rintro r3 w rfl hS
 refine ⟨_,_,_,rfl,?_⟩
 replace hS:=ro2 hS
 refine Aa4 hS rfl rfl ?_;intro w hS
 refine ⟨_,_,_,hS.cel mp0 rfl,?_⟩
 obtain ⟨t2,ht2,h⟩:=bnd h
 refine Ac1 H hS (qp.mono tl3) ht2 ?_;rintro r4 w rfl hS
 refine ⟨_,_,_,rfl,?_⟩
 replace hS:=ro1 hS
 refine Aa4 hS rfl rfl ?_;intro w hS
 refine ⟨_,hS.cel mp0 rfl,_,_,_,hS.cel mp0 rfl,_,_,_,hS.cel mp0 rfl,?_⟩
 replace hS:=ro3 hS
 refine Aa4 hS rfl rfl ?_;intro w hS
 refine Aa4 hS rfl rfl ?_;intro w hS
 refine Aa4 hS rfl rfl ?_;intro w hS
 refine ⟨_,hS.cel mp0 rfl,_,_,_,hS.cel mp0 rfl,_,_,_,hS.cel mp0 rfl,?_⟩
 cases Aa0 h
 exact hK _ _ _ rfl rfl (hS.pick (A:=[_,_,_,_]) [3,2] rfl)
theorem Du4 {q0 u0} (hS:Ho w0 w L)  (h:Cf3 q0=some u0) (hK:∀ w1,Ho w0 w1 L→K (.bool u0) w1):Aa1 P N.Ij3 #[.int .i64 q0] w K:=by
 refine H.r10_may q0 w _ ?_
 unfold Ei8
 unfold Cf3 at h
 try dsimp only
 refine Aa2 h ?_ ?_<;>intro hc h
 ·
  cases Aa0 h
  exact hK _ hS
 cases Aa0 h
 exact hK _ hS
theorem Ct1 {qb qc qd qa qf qr u0} (hS:Ho w0 w L) (qp:EF L qr qd qa qf) (h:Bn5 qb qc (List.map nf qr)=some u0) (hK:∀ w1,Ho w0 w1 L→K (.bool u0) w1):Aa1 P N.Ic8 #[.agg #[.int .i64 qb,.int .i64 qc,.slice qd qa qf]] w K:=by
 refine H.r10_Right qb qc qd qa qf w _ ?_
 unfold Df7
 unfold Bn5 at h
 try dsimp only
 refine Aa9 hS ?_;intro r1 w hS
 refine ⟨_,hS.cel mp0 rfl,?_⟩
 obtain ⟨t1,ht1,h⟩:=bnd h
 refine Du4 H hS  ht1 ?_;rintro w hS
 refine ⟨_,rfl,?_⟩
 refine Aa2 h ?_ ?_<;>intro hc h
 ·
  refine ⟨_,hS.cel mp0 rfl,?_⟩
  obtain ⟨t2,ht2,h⟩:=bnd h
  refine Du4 H hS  ht2 ?_;rintro w hS
  refine ⟨_,rfl,?_⟩
  refine Aa2 h ?_ ?_<;>intro hc h
  ·
   refine ⟨_,_,_,hS.cel mp0 rfl,?_⟩
   obtain ⟨t3,ht3,h⟩:=bnd h
   obtain rfl:=Bd5 ht3 ((qp.mono tl1).now (fun _ h=>h) hS)
   refine ⟨_,hS.cel mp0 rfl,_,hS.cel mp0 rfl,?_⟩
   cases Aa0 h
   exact hK _ (hS.pick (A:=[_]) [] rfl)
  cases Aa0 h
  exact hK _ (hS.pick (A:=[_]) [] rfl)
 cases Aa0 h
 exact hK _ (hS.pick (A:=[_]) [] rfl)
theorem Er4 {qb qc qe qg qx qd qa qf qr u0} (hS:Ho w0 w L) (qn:EF L qx qc qe qg) (qp:EF L qr qd qa qf) (h:Cd8 qb (List.map nf qx) (List.map nf qr)=some u0) (hK:∀ w1,Ho w0 w1 L→K (.bool u0) w1):Aa1 P N.Id8 #[.agg #[.int .i64 qb,.slice qc qe qg,.slice qd qa qf]] w K:=by
 refine H.r12_Right qb qc qe qg qd qa qf w _ ?_
 unfold Dh4
 unfold Cd8 at h
 try dsimp only
 refine Aa9 hS ?_;intro r1 w hS
 refine ⟨_,hS.cel mp0 rfl,?_⟩
 refine Aa2 h ?_ ?_<;>intro hc h
 ·
  refine ⟨_,hS.cel mp0 rfl,?_⟩
  refine Aa2 h ?_ ?_<;>intro hc h
  ·
   refine ⟨_,_,_,hS.cel mp0 rfl,?_⟩
   obtain ⟨t1,ht1,h⟩:=bnd h
   obtain rfl:=Bd5 ht1 ((qn.mono tl1).now (fun _ h=>h) hS)
   refine ⟨_,hS.cel mp0 rfl,_,hS.cel mp0 rfl,?_⟩
   refine ⟨by decide,?_⟩
   refine Aa2 h ?_ ?_<;>intro hc h
   ·
    refine ⟨_,_,_,hS.cel mp0 rfl,?_⟩
    obtain ⟨t2,ht2,h⟩:=bnd h
    obtain rfl:=Bd5 ht2 ((qp.mono tl1).now (fun _ h=>h) hS)
    refine ⟨_,hS.cel mp0 rfl,?_⟩
    cases Aa0 h
    exact hK _ (hS.pick (A:=[_]) [] rfl)
   cases Aa0 h
   exact hK _ (hS.pick (A:=[_]) [] rfl)
  cases Aa0 h
  exact hK _ (hS.pick (A:=[_]) [] rfl)
 cases Aa0 h
 exact hK _ (hS.pick (A:=[_]) [] rfl)
theorem Df6 {qb qc qd qa qf qr ql qk qh qi vh qq qs qt qz u0} (hS:Ho w0 w L) (qp:EF L qr qd qa qf) (qv:EF L vh qk qh qi) (vg:EF L qz qq qs qt) (h:Bl0 qb qc (List.map nf qr) ql (List.map nf vh) (List.map nf qz)=some u0) (hK:∀ w1,Ho w0 w1 L→K (.bool u0) w1):Aa1 P N.If8 #[.agg #[.int .i64 qb,.int .i64 qc,.slice qd qa qf],.agg #[.int .i64 ql,.slice qk qh qi,.slice qq qs qt]] w K:=by
 refine H.r14_fits qb qc qd qa qf ql qk qh qi qq qs qt w _ ?_
 unfold Ds3
 unfold Bl0 at h
 try dsimp only
 refine Aa9 hS ?_;intro r1 w hS
 refine Aa9 hS ?_;intro r2 w hS
 refine ⟨_,hS.cel mp1 rfl,_,hS.cel mp1 rfl,_,_,_,hS.cel mp1 rfl,?_⟩
 obtain ⟨t1,ht1,h⟩:=bnd h
 refine Ct1 H hS (qp.mono tl2) ht1 ?_;rintro w hS
 refine ⟨_,rfl,?_⟩
 refine Aa2 h ?_ ?_<;>intro hc h
 ·
  refine ⟨_,hS.cel mp0 rfl,_,_,_,hS.cel mp0 rfl,_,_,_,hS.cel mp0 rfl,?_⟩
  obtain ⟨t2,ht2,h⟩:=bnd h
  refine Er4 H hS (qv.mono tl2) (vg.mono tl2) ht2 ?_;rintro w hS
  refine ⟨_,rfl,?_⟩
  refine Aa2 h ?_ ?_<;>intro hc h
  ·
   refine ⟨_,hS.cel mp1 rfl,_,hS.cel mp0 rfl,?_⟩
   refine Aa2 h ?_ ?_<;>intro hc h
   ·
    refine ⟨_,hS.cel mp1 rfl,_,hS.cel mp0 rfl,?_⟩
    cases Aa0 h
    exact hK _ (hS.pick (A:=[_,_]) [] rfl)
   cases Aa0 h
   exact hK _ (hS.pick (A:=[_,_]) [] rfl)
  cases Aa0 h
  exact hK _ (hS.pick (A:=[_,_]) [] rfl)
 cases Aa0 h
 exact hK _ (hS.pick (A:=[_,_]) [] rfl)
theorem Al9 {q0 qj qm vn u0} (hS:Ho w0 w L) (qw:EF L vn q0 qj qm) (h:Ag2 (List.map nf vn)=some u0) (hK:∀ w1,Ho w0 w1 L→K (.bool u0) w1):Aa1 P N.Ib9 #[.slice q0 qj qm] w K:=by
 refine H.r14_finite q0 qj qm w _ ?_
 unfold Ct8
 unfold Ag2 at h
 try dsimp only
 obtain ⟨o1,h1,c1⟩:=bnd h
 refine Ab0 (fun s w =>  .inl ()=o1∧s=(())∧Ho w0 w L) (fun J1 hJ1=>?_) ?_
 ·
  have h:=h1
  clear h1
  refine Ab6 (fun s w t=>∃ (t1:Int),t1=t∧s=(t1,())∧Ho w0 w L) ?_ h ⟨_,rfl,rfl,hS⟩
  clear h hS
  rintro s w t X q ⟨t1,rfl,rfl,hS⟩ h hX hO
  unfold Ax7 at h
  try dsimp only
  obtain ⟨t2,ht2,h⟩:=bnd h
  obtain rfl:=Bd5 ht2 (qw.now (fun _ h=>h) hS)
  refine Aa2 h ?_ ?_<;>intro hc h
  ·
   obtain ⟨t3,ht3,h⟩:=bnd h
   obtain ⟨z2,rfl,q3x,vm,q3r⟩:=atF ht3
   refine Ac7 (qw.now (fun _ h=>h) hS) q3x vm q3r ?_;intro b4 hb4
   refine ⟨_,Ab4 (qw.now (fun _ h=>h) hS) hb4 q3x,?_⟩
   obtain ⟨t4,ht4,h⟩:=bnd h
   obtain ⟨z5,rfl,q6x,yh,q6r⟩:=atF ht4
   refine Ac7 (qw.now (fun _ h=>h) hS) q6x yh q6r ?_;intro b7 hb7
   refine ⟨_,Ab4 (qw.now (fun _ h=>h) hS) hb7 q6x,?_⟩
   obtain ⟨t5,ht5,h⟩:=bnd h
   refine Bs5 ht5 hS ?_;clear ht5;rintro z8 _ rfl _
   obtain ⟨t6,ht6,h⟩:=bnd h
   obtain rfl:=Dp6 ht6
   refine Aa5 hS ?_;intro w hS
   refine Aa2 h ?_ ?_<;>intro hc h
   ·
    obtain rfl:=Aa0 h
    have h:=congrArg some (hO _ rfl)
    obtain rfl:=Aa0 h
    have h:=c1
    cases Aa0 h
    exact hK _ hS
   obtain rfl:=Aa0 h
   exact hX _ rfl _ _ ⟨_,rfl,rfl,hS⟩
  obtain rfl:=Aa0 h
  have h:=congrArg some (hO _ rfl)
  exact hJ1 _ _ ⟨Aa0 h,rfl,hS⟩
 clear h1 hS
 rintro s w ⟨rfl,rfl,hS⟩
 have h:=c1
 clear c1
 try dsimp only
 cases Aa0 h
 exact hK _ hS
theorem Cs9 {qb qc qe qg qx qd qa qf qr u0} (hS:Ho w0 w L) (qn:EF L qx qc qe qg) (qp:EF L qr qd qa qf) (h:Bf4 qb (List.map nf qx) (List.map nf qr)=some u0) (hK:∀ w1,Ho w0 w1 L→K (.bool u0) w1):Aa1 P N.Id3 #[.agg #[.int .i64 qb,.slice qc qe qg,.slice qd qa qf]] w K:=by
 refine H.r13_Right qb qc qe qg qd qa qf w _ ?_
 unfold Dj7
 unfold Bf4 at h
 try dsimp only
 refine Aa9 hS ?_;intro r1 w hS
 refine ⟨_,hS.cel mp0 rfl,?_⟩
 refine Aa2 h ?_ ?_<;>intro hc h
 ·
  refine ⟨_,hS.cel mp0 rfl,?_⟩
  refine Aa2 h ?_ ?_<;>intro hc h
  ·
   refine ⟨_,_,_,hS.cel mp0 rfl,?_⟩
   obtain ⟨t1,ht1,h⟩:=bnd h
   obtain rfl:=Bd5 ht1 ((qn.mono tl1).now (fun _ h=>h) hS)
   refine ⟨_,hS.cel mp0 rfl,_,hS.cel mp0 rfl,?_⟩
   refine ⟨by decide,?_⟩
   refine Aa2 h ?_ ?_<;>intro hc h
   ·
    refine ⟨_,_,_,hS.cel mp0 rfl,?_⟩
    obtain ⟨t2,ht2,h⟩:=bnd h
    obtain rfl:=Bd5 ht2 ((qp.mono tl1).now (fun _ h=>h) hS)
    refine ⟨_,hS.cel mp0 rfl,?_⟩
    cases Aa0 h
    exact hK _ (hS.pick (A:=[_]) [] rfl)
   cases Aa0 h
   exact hK _ (hS.pick (A:=[_]) [] rfl)
  cases Aa0 h
  exact hK _ (hS.pick (A:=[_]) [] rfl)
 cases Aa0 h
 exact hK _ (hS.pick (A:=[_]) [] rfl)
theorem Er5 {qb qc qe qg qx qd qa qf qr q1 q2 u0} (hS:Ho w0 w L) (qn:EF L qx qc qe qg) (qp:EF L qr qd qa qf) (h:Cm2 qb (List.map nf qx) (List.map nf qr) q1 q2=some u0) (hK:∀ (z0:Nat) (w1:World),nf z0=u0→Ho w0 w1 L→K (.float .f64 z0) w1):Aa1 P N.Ij5 #[.agg #[.int .i64 qb,.slice qc qe qg,.slice qd qa qf],.int .i64 q1,.int .i64 q2] w K:=by
 refine H.r13_at qb qc qe qg qd qa qf q1 q2 w _ ?_
 unfold Fh8
 unfold Cm2 at h
 try dsimp only
 refine Aa9 hS ?_;intro r1 w hS
 refine ⟨_,_,_,hS.cel mp0 rfl,?_⟩
 refine ⟨by decide,?_⟩
 obtain ⟨t1,ht1,h⟩:=bnd h
 obtain ⟨z2,rfl,q3x,vm,q3r⟩:=atF ht1
 refine Ac7 ((qn.mono tl1).now (fun _ h=>h) hS) q3x vm q3r ?_;intro b4 hb4
 refine ⟨_,Ab4 ((qn.mono tl1).now (fun _ h=>h) hS) hb4 q3x,?_⟩
 cases Aa0 h
 exact hK _ _ rfl (hS.pick (A:=[_]) [] rfl)
theorem Dm2 {qb qc qe qg qx qd qa qf qr q1 qo qu vk u0 u1} (hS:Ho w0 w L) (qn:EF L qx qc qe qg) (qp:EF L qr qd qa qf) (ve:EF L vk q1 qo qu) (h:Ah6 qb (List.map nf qx) (List.map nf qr) (List.map nf vk)=some (u0,u1)) (hK:∀ (a0:OA) (n0 c0:Nat) (rws0:List Nat) (w1:World),List.map nf rws0=u0→Ho w0 w1 ((sl a0 n0 c0 (List.map (Value.float .f64) rws0) N.Ii0)::L)→K (.tuple #[.slice a0 n0 c0,.int .i64 u1]) w1):Aa1 P N.Hx2 #[.agg #[.int .i64 qb,.slice qc qe qg,.slice qd qa qf],.slice q1 qo qu] w K:=by
 refine H.r13_Forward qb qc qe qg qd qa qf q1 qo qu w _ ?_
 unfold Cj5
 unfold Ah6 at h
 try dsimp only
 refine Aa9 hS ?_;intro r1 w hS
 obtain ⟨o2,h2,c2⟩:=bnd h
 refine Ab0 (fun s w=>∃ (t1:Bool),t1=o2∧s=(t1,())∧Ho w0 w ((cl r1 [.int .i64 qb,.slice qc qe qg,.slice qd qa qf] N.Ik8)::L)) (fun J2 hJ2=>?_) ?_
 ·
  have h:=h2
  clear h2
  refine ⟨_,hS.cel mp0 rfl,_,_,_,hS.cel mp0 rfl,_,_,_,hS.cel mp0 rfl,?_⟩
  obtain ⟨t2,ht2,h⟩:=bnd h
  refine Cs9 H hS (qn.mono tl1) (qp.mono tl1) ht2 ?_;rintro w hS
  refine ⟨_,rfl,?_⟩
  refine Aa2 h ?_ ?_<;>intro hc h
  ·
   obtain ⟨t3,ht3,h⟩:=bnd h
   obtain rfl:=Bd5 ht3 ((ve.mono tl1).now (fun _ h=>h) hS)
   refine ⟨_,hS.cel mp0 rfl,?_⟩
   exact hJ2 _ _ ⟨_,Aa0 h,rfl,hS⟩
  exact hJ2 _ _ ⟨_,Aa0 h,rfl,hS⟩
 clear h2 hS
 rintro s w ⟨t1,rfl,rfl,hS⟩
 have h:=c2
 clear c2
 try dsimp only
 refine Aa2 h ?_ ?_<;>intro hc h
 ·
  replace hS:=hS.none (α:=Nat) (enc:=(Value.float .f64)) (t:=N.Ii0)
  cases Aa0 h
  exact hK _ _ _ _ _ rfl (hS.pick (A:=[_,_]) [0] rfl)
 refine ⟨_,hS.cel mp0 rfl,?_⟩
 obtain ⟨t4,ht4,h⟩:=bnd h
 obtain ⟨rfl,kt4⟩:=mkF ht4
 refine Ft4 (enc:=(Value.float .f64)) hS kt4 rfl ?_;clear hS kt4;intro r3 w hS
 obtain ⟨o5,h5,c5⟩:=bnd h
 refine Ab0 (fun s w=>∃ (jd:List Nat),(List.map nf jd)=o5∧s=(())∧Ho w0 w ((sl (some ⟨r3,0,none⟩) ((qb).toNat) ((qb).toNat) (List.map (Value.float .f64) jd) N.Ii0)::L)) (fun J5 hJ5=>?_) ?_
 ·
  have h:=h5
  clear h5
  refine Ab6 (fun s w t=>∃ (t6:Int) (yi:List Nat),(t6,(List.map nf yi))=t∧s=(t6,())∧Ho w0 w ((sl (some ⟨r3,0,none⟩) ((qb).toNat) ((qb).toNat) (List.map (Value.float .f64) yi) N.Ii0)::(cl r1 [.int .i64 qb,.slice qc qe qg,.slice qd qa qf] N.Ik8)::L)) ?_ h ⟨_,_,rfl,rfl,hS⟩
  clear h hS
  rintro s w t X q ⟨t6,yi,rfl,rfl,hS⟩ h hX hO
  unfold Ak1 at h
  try dsimp only
  refine ⟨_,hS.cel mp1 rfl,?_⟩
  refine Aa2 h ?_ ?_<;>intro hc h
  ·
   obtain ⟨t8,ht8,h⟩:=bnd h
   obtain ⟨z7,rfl,q8x,yj,q8r⟩:=atF ht8
   refine Ac7 ((ve.mono tl2).now (fun _ h=>h) hS) q8x yj q8r ?_;intro b9 hb9
   refine ⟨_,Ab4 ((ve.mono tl2).now (fun _ h=>h) hS) hb9 q8x,?_⟩
   obtain ⟨o11,h11,c11⟩:=bnd h
   refine Ab0 (fun s w=>∃ (z10:Nat),(nf z10)=o11∧s=(z10,())∧Ho w0 w ((sl (some ⟨r3,0,none⟩) ((qb).toNat) ((qb).toNat) (List.map (Value.float .f64) yi) N.Ii0)::(cl r1 [.int .i64 qb,.slice qc qe qg,.slice qd qa qf] N.Ik8)::L)) (fun J11 hJ11=>?_) ?_
   ·
    have h:=h11
    clear h11
    refine Ab6 (fun s w t=>∃ (z12:Nat) (t11:Int),((nf z12),t11)=t∧s=(z12,t11,())∧Ho w0 w ((sl (some ⟨r3,0,none⟩) ((qb).toNat) ((qb).toNat) (List.map (Value.float .f64) yi) N.Ii0)::(cl r1 [.int .i64 qb,.slice qc qe qg,.slice qd qa qf] N.Ik8)::L)) ?_ h ⟨_,_,rfl,rfl,hS⟩
    clear h hS
    rintro s w t X q ⟨z12,t11,rfl,rfl,hS⟩ h hX hO
    unfold Aj6 at h
    try dsimp only
    refine Aa2 h ?_ ?_<;>intro hc h
    ·
     refine ⟨_,hS.cel mp1 rfl,_,_,_,hS.cel mp1 rfl,_,_,_,hS.cel mp1 rfl,?_⟩
     obtain ⟨t12,ht12,h⟩:=bnd h
     obtain ⟨z13,rfl,q14x,yx,q14r⟩:=atF ht12
     refine Bh6 ((Ent.sl mp0).now (fun _ h=>h) hS) q14x yx q14r ?_
     refine ⟨_,Ab4 ((Ent.sl mp0).now (fun _ h=>h) hS) rfl q14x,?_⟩
     refine Aa5 hS ?_;intro w hS
     obtain ⟨t13,ht13,h⟩:=bnd h
     refine Er5 H hS (qn.mono tl2) (qp.mono tl2) ht13 ?_;rintro z16 w rfl hS
     refine ⟨_,rfl,?_⟩
     refine ⟨Ab4 ((Ent.sl mp0).now (fun _ h=>h) hS) rfl q14x,?_⟩
     obtain ⟨t14,ht14,h⟩:=bnd h
     refine Dq2 ht14 hS ?_;clear ht14;rintro z17 _ rfl _
     refine Aa5 hS ?_;intro w hS
     obtain ⟨t15,ht15,h⟩:=bnd h
     refine Bs5 ht15 hS ?_;rintro z18 w rfl hS
     obtain rfl:=Aa0 h
     exact hX _ rfl _ _ ⟨_,_,rfl,rfl,hS⟩
    obtain rfl:=Aa0 h
    have h:=congrArg some (hO _ rfl)
    exact hJ11 _ _ ⟨_,Aa0 h,rfl,hS⟩
   clear h11 hS
   rintro s w ⟨z10,rfl,rfl,hS⟩
   have h:=c11
   clear c11
   try dsimp only
   obtain ⟨t16,ht16,h⟩:=bnd h
   obtain ⟨z19,rfl,q20x,jz,q20r⟩:=atF ht16
   refine Bh6 ((Ent.sl mp0).now (fun _ h=>h) hS) q20x jz q20r ?_
   obtain ⟨t17,ht17,h⟩:=bnd h
   obtain rfl:=Hc6 ht17
   refine Bj9 hS rfl q20r ?_;intro w hS
   obtain rfl:=Aa0 h
   exact hX _ rfl _ _ ⟨_,_,rfl,rfl,hS⟩
  obtain rfl:=Aa0 h
  have h:=congrArg some (hO _ rfl)
  obtain rfl:=Aa0 h
  exact hJ5 _ _ ⟨_,rfl,rfl,(hS.pick (A:=[_,_]) [0] rfl)⟩
 clear h5 hS
 rintro s w ⟨jd,rfl,rfl,hS⟩
 have h:=c5
 clear c5
 try dsimp only
 cases Aa0 h
 exact hK _ _ _ _ _ rfl hS
theorem Fe1 {qb qc qe qg qx qd qa qf qr u0} (hS:Ho w0 w L) (qn:EF L qx qc qe qg) (qp:EF L qr qd qa qf) (h:Az7 qb (List.map nf qx) (List.map nf qr)=some u0) (hK:∀ w1,Ho w0 w1 L→K (.bool u0) w1):Aa1 P N.Ig2 #[.agg #[.int .i64 qb,.slice qc qe qg,.slice qd qa qf]] w K:=by
 refine H.r13_zero qb qc qe qg qd qa qf w _ ?_
 unfold Dr4
 unfold Az7 at h
 try dsimp only
 refine Aa9 hS ?_;intro r1 w hS
 obtain ⟨o2,h2,c2⟩:=bnd h
 refine Ab0 (fun s w =>  .inl ()=o2∧s=(())∧Ho w0 w L) (fun J2 hJ2=>?_) ?_
 ·
  have h:=h2
  clear h2
  refine Ab6 (fun s w t=>∃ (t1:Int),t1=t∧s=(t1,())∧Ho w0 w ((cl r1 [.int .i64 qb,.slice qc qe qg,.slice qd qa qf] N.Ik8)::L)) ?_ h ⟨_,rfl,rfl,hS⟩
  clear h hS
  rintro s w t X q ⟨t1,rfl,rfl,hS⟩ h hX hO
  unfold Al3 at h
  try dsimp only
  refine ⟨_,_,_,hS.cel mp0 rfl,?_⟩
  obtain ⟨t2,ht2,h⟩:=bnd h
  obtain rfl:=Bd5 ht2 ((qp.mono tl1).now (fun _ h=>h) hS)
  refine Aa2 h ?_ ?_<;>intro hc h
  ·
   refine ⟨_,_,_,hS.cel mp0 rfl,?_⟩
   obtain ⟨t3,ht3,h⟩:=bnd h
   obtain ⟨z3,rfl,q4x,yv,q4r⟩:=atF ht3
   refine Ac7 ((qp.mono tl1).now (fun _ h=>h) hS) q4x yv q4r ?_;intro b5 hb5
   refine ⟨_,Ab4 ((qp.mono tl1).now (fun _ h=>h) hS) hb5 q4x,?_⟩
   obtain ⟨t4,ht4,h⟩:=bnd h
   obtain rfl:=Bx5 ht4
   refine Aa2 h ?_ ?_<;>intro hc h
   ·
    obtain rfl:=Aa0 h
    have h:=congrArg some (hO _ rfl)
    obtain rfl:=Aa0 h
    have h:=c2
    cases Aa0 h
    exact hK _ (hS.pick (A:=[_]) [] rfl)
   obtain rfl:=Aa0 h
   exact hX _ rfl _ _ ⟨_,rfl,rfl,hS⟩
  obtain rfl:=Aa0 h
  have h:=congrArg some (hO _ rfl)
  obtain rfl:=Aa0 h
  exact hJ2 _ _ ⟨rfl,rfl,(hS.pick (A:=[_]) [] rfl)⟩
 clear h2 hS
 rintro s w ⟨rfl,rfl,hS⟩
 have h:=c2
 clear c2
 try dsimp only
 cases Aa0 h
 exact hK _ hS
theorem Ez4 {qb qc qe qg qx qd qa qf qr q1 qo qu vk u0 u1} (hS:Ho w0 w L) (qn:EF L qx qc qe qg) (qp:EF L qr qd qa qf) (ve:EF L vk q1 qo qu) (h:Am9 qb (List.map nf qx) (List.map nf qr) (List.map nf vk)=some (u0,u1)) (hK:∀ (a0:OA) (n0 c0:Nat) (rws0:List Nat) (w1:World),List.map nf rws0=u0→Ho w0 w1 ((sl a0 n0 c0 (List.map (Value.float .f64) rws0) N.Ii0)::L)→K (.tuple #[.slice a0 n0 c0,.int .i64 u1]) w1):Aa1 P N.Ig7 #[.agg #[.int .i64 qb,.slice qc qe qg,.slice qd qa qf],.slice q1 qo qu] w K:=by
 refine H.r13_Back qb qc qe qg qd qa qf q1 qo qu w _ ?_
 unfold Dt1
 unfold Am9 at h
 try dsimp only
 refine Aa9 hS ?_;intro r1 w hS
 obtain ⟨o2,h2,c2⟩:=bnd h
 refine Ab0 (fun s w=>∃ (t1:Bool),t1=o2∧s=(t1,())∧Ho w0 w ((cl r1 [.int .i64 qb,.slice qc qe qg,.slice qd qa qf] N.Ik8)::L)) (fun J2 hJ2=>?_) ?_
 ·
  have h:=h2
  clear h2
  refine ⟨_,hS.cel mp0 rfl,_,_,_,hS.cel mp0 rfl,_,_,_,hS.cel mp0 rfl,?_⟩
  obtain ⟨t2,ht2,h⟩:=bnd h
  refine Cs9 H hS (qn.mono tl1) (qp.mono tl1) ht2 ?_;rintro w hS
  refine ⟨_,rfl,?_⟩
  refine Aa2 h ?_ ?_<;>intro hc h
  ·
   obtain ⟨t3,ht3,h⟩:=bnd h
   obtain rfl:=Bd5 ht3 ((ve.mono tl1).now (fun _ h=>h) hS)
   refine ⟨_,hS.cel mp0 rfl,?_⟩
   exact hJ2 _ _ ⟨_,Aa0 h,rfl,hS⟩
  exact hJ2 _ _ ⟨_,Aa0 h,rfl,hS⟩
 clear h2 hS
 rintro s w ⟨t1,rfl,rfl,hS⟩
 have h:=c2
 clear c2
 try dsimp only
 refine Aa2 h ?_ ?_<;>intro hc h
 ·
  replace hS:=hS.none (α:=Nat) (enc:=(Value.float .f64)) (t:=N.Ii0)
  cases Aa0 h
  exact hK _ _ _ _ _ rfl (hS.pick (A:=[_,_]) [0] rfl)
 refine ⟨_,hS.cel mp0 rfl,_,_,_,hS.cel mp0 rfl,_,_,_,hS.cel mp0 rfl,?_⟩
 obtain ⟨t4,ht4,h⟩:=bnd h
 refine Fe1 H hS (qn.mono tl1) (qp.mono tl1) ht4 ?_;rintro w hS
 refine ⟨_,rfl,?_⟩
 refine Aa2 h ?_ ?_<;>intro hc h
 ·
  replace hS:=hS.none (α:=Nat) (enc:=(Value.float .f64)) (t:=N.Ii0)
  cases Aa0 h
  exact hK _ _ _ _ _ rfl (hS.pick (A:=[_,_]) [0] rfl)
 refine ⟨_,hS.cel mp0 rfl,?_⟩
 obtain ⟨t5,ht5,h⟩:=bnd h
 obtain ⟨rfl,kt5⟩:=mkF ht5
 refine Ft4 (enc:=(Value.float .f64)) hS kt5 rfl ?_;clear hS kt5;intro r3 w hS
 refine ⟨_,hS.cel mp1 rfl,?_⟩
 obtain ⟨o5,h5,c5⟩:=bnd h
 refine Ab0 (fun s w=>∃ (jd:List Nat),(List.map nf jd)=o5∧s=(())∧Ho w0 w ((sl (some ⟨r3,0,none⟩) ((qb).toNat) ((qb).toNat) (List.map (Value.float .f64) jd) N.Ii0)::L)) (fun J5 hJ5=>?_) ?_
 ·
  have h:=h5
  clear h5
  refine Ab6 (fun s w t=>∃ (t7:Int) (yi:List Nat),(t7,(List.map nf yi))=t∧s=(t7,())∧Ho w0 w ((sl (some ⟨r3,0,none⟩) ((qb).toNat) ((qb).toNat) (List.map (Value.float .f64) yi) N.Ii0)::(cl r1 [.int .i64 qb,.slice qc qe qg,.slice qd qa qf] N.Ik8)::L)) ?_ h ⟨_,_,rfl,rfl,hS⟩
  clear h hS
  rintro s w t X q ⟨t7,yi,rfl,rfl,hS⟩ h hX hO
  unfold As6 at h
  try dsimp only
  refine Aa2 h ?_ ?_<;>intro hc h
  ·
   obtain ⟨t9,ht9,h⟩:=bnd h
   obtain ⟨z7,rfl,q8x,yj,q8r⟩:=atF ht9
   refine Ac7 ((ve.mono tl2).now (fun _ h=>h) hS) q8x yj q8r ?_;intro b9 hb9
   refine ⟨_,Ab4 ((ve.mono tl2).now (fun _ h=>h) hS) hb9 q8x,?_⟩
   refine ⟨_,_,_,hS.cel mp1 rfl,?_⟩
   obtain ⟨t10,ht10,h⟩:=bnd h
   obtain ⟨z10,rfl,q11x,yq,q11r⟩:=atF ht10
   refine Ac7 ((qp.mono tl2).now (fun _ h=>h) hS) q11x yq q11r ?_;intro b12 hb12
   refine ⟨_,Ab4 ((qp.mono tl2).now (fun _ h=>h) hS) hb12 q11x,?_⟩
   obtain ⟨t11,ht11,h⟩:=bnd h
   refine Dq1 ht11 hS ?_;clear ht11;rintro z13 _ rfl _
   refine Aa5 hS ?_;intro w hS
   obtain ⟨o15,h15,c15⟩:=bnd h
   refine Ab0 (fun s w=>∃ (z14:Nat),(nf z14)=o15∧s=(z14,())∧Ho w0 w ((sl (some ⟨r3,0,none⟩) ((qb).toNat) ((qb).toNat) (List.map (Value.float .f64) yi) N.Ii0)::(cl r1 [.int .i64 qb,.slice qc qe qg,.slice qd qa qf] N.Ik8)::L)) (fun J15 hJ15=>?_) ?_
   ·
    have h:=h15
    clear h15
    refine Ab6 (fun s w t=>∃ (z16:Nat) (t14:Int),((nf z16),t14)=t∧s=(z16,t14,())∧Ho w0 w ((sl (some ⟨r3,0,none⟩) ((qb).toNat) ((qb).toNat) (List.map (Value.float .f64) yi) N.Ii0)::(cl r1 [.int .i64 qb,.slice qc qe qg,.slice qd qa qf] N.Ik8)::L)) ?_ h ⟨_,_,rfl,rfl,hS⟩
    clear h hS
    rintro s w t X q ⟨z16,t14,rfl,rfl,hS⟩ h hX hO
    unfold At3 at h
    try dsimp only
    refine ⟨_,hS.cel mp1 rfl,?_⟩
    refine Aa2 h ?_ ?_<;>intro hc h
    ·
     refine ⟨_,hS.cel mp1 rfl,_,_,_,hS.cel mp1 rfl,_,_,_,hS.cel mp1 rfl,?_⟩
     obtain ⟨t15,ht15,h⟩:=bnd h
     obtain ⟨z17,rfl,q18x,ga,q18r⟩:=atF ht15
     refine Bh6 ((Ent.sl mp0).now (fun _ h=>h) hS) q18x ga q18r ?_
     refine ⟨_,Ab4 ((Ent.sl mp0).now (fun _ h=>h) hS) rfl q18x,?_⟩
     refine Aa5 hS ?_;intro w hS
     obtain ⟨t16,ht16,h⟩:=bnd h
     refine Er5 H hS (qn.mono tl2) (qp.mono tl2) ht16 ?_;rintro z20 w rfl hS
     refine ⟨_,rfl,?_⟩
     refine ⟨Ab4 ((Ent.sl mp0).now (fun _ h=>h) hS) rfl q18x,?_⟩
     obtain ⟨t17,ht17,h⟩:=bnd h
     refine Dq2 ht17 hS ?_;clear ht17;rintro z21 _ rfl _
     refine Aa5 hS ?_;intro w hS
     obtain ⟨t18,ht18,h⟩:=bnd h
     refine Bs5 ht18 hS ?_;rintro z22 w rfl hS
     obtain rfl:=Aa0 h
     exact hX _ rfl _ _ ⟨_,_,rfl,rfl,hS⟩
    obtain rfl:=Aa0 h
    have h:=congrArg some (hO _ rfl)
    exact hJ15 _ _ ⟨_,Aa0 h,rfl,hS⟩
   clear h15 hS
   rintro s w ⟨z14,rfl,rfl,hS⟩
   have h:=c15
   clear c15
   try dsimp only
   obtain ⟨t19,ht19,h⟩:=bnd h
   obtain ⟨z23,rfl,q24x,zd,q24r⟩:=atF ht19
   refine Bh6 ((Ent.sl mp0).now (fun _ h=>h) hS) q24x zd q24r ?_
   obtain ⟨t20,ht20,h⟩:=bnd h
   obtain rfl:=Hc6 ht20
   refine Bj9 hS rfl q24r ?_;intro w hS
   obtain rfl:=Aa0 h
   exact hX _ rfl _ _ ⟨_,_,rfl,rfl,hS⟩
  obtain rfl:=Aa0 h
  have h:=congrArg some (hO _ rfl)
  obtain rfl:=Aa0 h
  exact hJ5 _ _ ⟨_,rfl,rfl,(hS.pick (A:=[_,_]) [0] rfl)⟩
 clear h5 hS
 rintro s w ⟨jd,rfl,rfl,hS⟩
 have h:=c5
 clear c5
 try dsimp only
 cases Aa0 h
 exact hK _ _ _ _ _ rfl hS
theorem Cu9 {qb qc qe qg qx qd qa qf qr q1 qo qu vk u0 u1} (hS:Ho w0 w L) (qn:EF L qx qc qe qg) (qp:EF L qr qd qa qf) (ve:EF L vk q1 qo qu) (h:Ar7 qb (List.map nf qx) (List.map nf qr) (List.map nf vk)=some (u0,u1)) (hK:∀ (a0:OA) (n0 c0:Nat) (rws0:List Nat) (w1:World),List.map nf rws0=u0→Ho w0 w1 ((sl a0 n0 c0 (List.map (Value.float .f64) rws0) N.Ii0)::L)→K (.tuple #[.slice a0 n0 c0,.int .i64 u1]) w1):Aa1 P N.Ic9 #[.agg #[.int .i64 qb,.slice qc qe qg,.slice qd qa qf],.slice q1 qo qu] w K:=by
 refine H.r13_Solve qb qc qe qg qd qa qf q1 qo qu w _ ?_
 unfold De5
 unfold Ar7 at h
 try dsimp only
 refine Aa9 hS ?_;intro r1 w hS
 refine ⟨_,hS.cel mp0 rfl,_,_,_,hS.cel mp0 rfl,_,_,_,hS.cel mp0 rfl,?_⟩
 obtain ⟨⟨t1,t2⟩,ho1,h⟩:=bnd h
 refine Dm2 H hS (qn.mono tl1) (qp.mono tl1) (ve.mono tl1) ho1 ?_;clear hS ho1;rintro a2 m2 c2 vx w rfl hS
 refine ⟨_,_,_,_,rfl,?_⟩
 refine Aa2 h ?_ ?_<;>intro hc h
 ·
  replace hS:=hS.none (α:=Nat) (enc:=(Value.float .f64)) (t:=N.Ii0)
  cases Aa0 h
  exact hK _ _ _ _ _ rfl (hS.pick (A:=[_,_,_]) [0] rfl)
 refine ⟨_,hS.cel mp1 rfl,_,_,_,hS.cel mp1 rfl,_,_,_,hS.cel mp1 rfl,?_⟩
 obtain ⟨⟨t3,t4⟩,ho3,h⟩:=bnd h
 refine Ez4 H hS (qn.mono tl2) (qp.mono tl2) (Ent.sl mp0) ho3 ?_;clear hS ho3;rintro a3 m3 c3 yu w rfl hS
 refine ⟨_,_,_,_,rfl,?_⟩
 cases Aa0 h
 exact hK _ _ _ _ _ rfl (hS.pick (A:=[_,_,_]) [0] rfl)
theorem Dv6 {qb qc qd qa qf qr q1 qo qu vk q2 qy vf vx u0} (hS:Ho w0 w L) (qp:EF L qr qd qa qf) (ve:EF L vk q1 qo qu) (vw:EF L vx q2 qy vf) (h:Br1 qb qc (List.map nf qr) (List.map nf vk) (List.map nf vx)=some u0) (hK:∀ w1,Ho w0 w1 L→K (.bool u0) w1):Aa1 P N.Ii7 #[.agg #[.int .i64 qb,.int .i64 qc,.slice qd qa qf],.slice q1 qo qu,.slice q2 qy vf] w K:=by
 refine H.r14_fit qb qc qd qa qf q1 qo qu q2 qy vf w _ ?_
 unfold En6
 unfold Br1 at h
 try dsimp only
 refine Aa9 hS ?_;intro r1 w hS
 refine ⟨_,hS.cel mp0 rfl,_,hS.cel mp0 rfl,_,_,_,hS.cel mp0 rfl,?_⟩
 obtain ⟨t1,ht1,h⟩:=bnd h
 refine Ct1 H hS (qp.mono tl1) ht1 ?_;rintro w hS
 refine ⟨_,rfl,?_⟩
 refine Aa2 h ?_ ?_<;>intro hc h
 ·
  obtain ⟨t2,ht2,h⟩:=bnd h
  obtain rfl:=Bd5 ht2 ((ve.mono tl1).now (fun _ h=>h) hS)
  refine ⟨_,hS.cel mp0 rfl,?_⟩
  refine Aa2 h ?_ ?_<;>intro hc h
  ·
   obtain ⟨t3,ht3,h⟩:=bnd h
   obtain rfl:=Bd5 ht3 ((vw.mono tl1).now (fun _ h=>h) hS)
   refine ⟨_,hS.cel mp0 rfl,?_⟩
   cases Aa0 h
   exact hK _ (hS.pick (A:=[_]) [] rfl)
  cases Aa0 h
  exact hK _ (hS.pick (A:=[_]) [] rfl)
 cases Aa0 h
 exact hK _ (hS.pick (A:=[_]) [] rfl)
theorem Ed7 {q0 u0 u1 u2} (hS:Ho w0 w L)  (h:Bi1 (nf q0)=some (u0,u1,u2)) (hK:∀ w1,Ho w0 w1 L→K (.tuple #[.bool u0,.int .i64 u1,.int .u64 u2]) w1):Aa1 P N.Ia0 #[.float .f64 q0] w K:=by
 refine H.r01_fields q0 w _ ?_
 unfold Br9
 unfold Bi1 at h
 try dsimp only
 obtain ⟨t1,ht1,h⟩:=bnd h
 refine Af2 H hS  ht1 ?_;rintro w hS
 refine ⟨_,rfl,?_⟩
 refine ⟨by decide,?_⟩
 refine ⟨by decide,?_⟩
 refine ⟨by decide,?_⟩
 refine ⟨by decide,?_⟩
 cases Aa0 h
 exact hK _ hS
theorem Fa4 {q0 u0} (hS:Ho w0 w L)  (hx:Bv7 (nf q0)=some u0) (hK:∀ w1,Ho w0 w1 L→K (.int .i64 u0) w1):Aa1 P N.Ig3 #[.float .f64 q0] w K:=by
 unfold Bv7 at hx
 have hx:=Aa0 hx
 refine (Hk4 H q0 w).mono ?_
 rintro _ w1 ⟨rfl,h1⟩
 have e:(if Cw1 q0=2047 then (if Bk2 q0=0 then (3:Int) else 4) else if Cw1 q0=0 then (if Bk2 q0=0 then 0 else 1) else 2)=u0:=by
  rw [← hx]
  cases hn:isNaN q0 with
  | false=>rw [Ac3 hn]
  | true=>
   rw [Aj2 hn]
   have e1:Cw1 Cx5=2047:=by decide +kernel
   have e2:Bk2 Cx5≠0:=by decide +kernel
   rw [Ep3] at hn
   simp at hn
   simp [hn,e1,e2]
 rw [e]
 exact hK _ (hS.next h1)
theorem Ec6 {q0 u0} (hS:Ho w0 w L)  (h:Bc8 (nf q0)=some u0) (hK:∀ w1,Ho w0 w1 L→K (.bool u0) w1):Aa1 P N.Ia5 #[.float .f64 q0] w K:=by
 refine H.r01_Finite q0 w _ ?_
 unfold Cr8
 unfold Bc8 at h
 try dsimp only
 obtain ⟨t1,ht1,h⟩:=bnd h
 refine Fa4 H hS  ht1 ?_;rintro w hS
 refine ⟨_,rfl,?_⟩
 cases Aa0 h
 exact hK _ hS
theorem Ek7 {q0 u0 u1 u2 u3} (hS:Ho w0 w L)  (h:Az3 (nf q0)=some (u0,u1,u2,u3)) (hK:∀ w1,Ho w0 w1 L→K (.tuple #[.agg #[.bool u0,.int .u64 u1,.int .i64 u2],.bool u3]) w1):Aa1 P N.Id7 #[.float .f64 q0] w K:=by
 refine H.r01_Split q0 w _ ?_
 unfold Dc7
 unfold Az3 at h
 try dsimp only
 refine Aa9 hS ?_;intro r1 w hS
 obtain ⟨t1,ht1,h⟩:=bnd h
 refine Ec6 H hS  ht1 ?_;rintro w hS
 refine ⟨_,rfl,?_⟩
 refine Aa2 h ?_ ?_<;>intro hc h
 ·
  refine Aa4 hS rfl rfl ?_;intro w hS
  refine Aa4 hS rfl rfl ?_;intro w hS
  refine Aa4 hS rfl rfl ?_;intro w hS
  refine ⟨_,hS.cel mp0 rfl,_,hS.cel mp0 rfl,_,hS.cel mp0 rfl,?_⟩
  cases Aa0 h
  exact hK _ (hS.pick (A:=[_]) [] rfl)
 obtain ⟨⟨t2,t3,t4⟩,ho2,h⟩:=bnd h
 refine Ed7 H hS  ho2 ?_;clear hS ho2;rintro w hS
 refine ⟨_,_,_,rfl,?_⟩
 refine Aa9 hS ?_;intro r2 w hS
 refine Aa4 hS rfl rfl ?_;intro w hS
 refine Aa4 hS rfl rfl ?_;intro w hS
 refine Aa4 hS rfl rfl ?_;intro w hS
 obtain ⟨o3,h3,c3⟩:=bnd h
 refine Ab0 (fun s w=>∃ (t5:Int) (t6:Int),(t5,t6)=o3∧s=(())∧Ho w0 w ((cl r2 [.bool t2,.int .u64 t5,.int .i64 t6] N.Im2)::(cl r1 [.bool false,.int .u64 0,.int .i64 0] N.Im2)::L)) (fun J3 hJ3=>?_) ?_
 ·
  have h:=h3
  clear h3
  refine Aa2 h ?_ ?_<;>intro hc h
  ·
   refine Aa4 hS rfl rfl ?_;intro w hS
   refine Aa4 hS rfl rfl ?_;intro w hS
   exact hJ3 _ _ ⟨_,_,Aa0 h,rfl,hS⟩
  exact hJ3 _ _ ⟨_,_,Aa0 h,rfl,hS⟩
 clear h3 hS
 rintro s w ⟨t5,t6,rfl,rfl,hS⟩
 have h:=c3
 clear c3
 try dsimp only
 refine ⟨_,hS.cel mp0 rfl,?_⟩
 obtain ⟨o4,h4,c4⟩:=bnd h
 refine Ab0 (fun s w=>∃ (t7:Int),t7=o4∧s=(())∧Ho w0 w ((cl r2 [.bool t2,.int .u64 t5,.int .i64 t7] N.Im2)::(cl r1 [.bool false,.int .u64 0,.int .i64 0] N.Im2)::L)) (fun J4 hJ4=>?_) ?_
 ·
  have h:=h4
  clear h4
  refine Aa2 h ?_ ?_<;>intro hc h
  ·
   refine Aa4 hS rfl rfl ?_;intro w hS
   exact hJ4 _ _ ⟨_,Aa0 h,rfl,hS⟩
  exact hJ4 _ _ ⟨_,Aa0 h,rfl,hS⟩
 clear h4 hS
 rintro s w ⟨t7,rfl,rfl,hS⟩
 have h:=c4
 clear c4
 try dsimp only
 obtain ⟨o5,h5,c5⟩:=bnd h
 refine Ab0 (fun s w=>∃ (t8:Int) (t9:Int),(t8,t9)=o5∧s=(())∧Ho w0 w ((cl r2 [.bool t2,.int .u64 t8,.int .i64 t9] N.Im2)::(cl r1 [.bool false,.int .u64 0,.int .i64 0] N.Im2)::L)) (fun J5 hJ5=>?_) ?_
 ·
  have h:=h5
  clear h5
  refine Ab6 (fun s w t=>∃ (t10:Int) (t11:Int),(t10,t11)=t∧s=(())∧Ho w0 w ((cl r2 [.bool t2,.int .u64 t10,.int .i64 t11] N.Im2)::(cl r1 [.bool false,.int .u64 0,.int .i64 0] N.Im2)::L)) ?_ h ⟨_,_,rfl,rfl,hS⟩
  clear h hS
  rintro s w t X q ⟨t10,t11,rfl,rfl,hS⟩ h hX hO
  unfold Ag7 at h
  try dsimp only
  refine ⟨_,hS.cel mp0 rfl,?_⟩
  refine Aa2 h ?_ ?_<;>intro hc h
  ·
   refine ⟨_,hS.cel mp0 rfl,?_⟩
   refine ⟨by decide,?_⟩
   refine Aa2 h ?_ ?_<;>intro hc h
   ·
    refine ⟨_,hS.cel mp0 rfl,?_⟩
    refine ⟨by decide,?_⟩
    refine Aa4 hS rfl rfl ?_;intro w hS
    refine ⟨_,hS.cel mp0 rfl,?_⟩
    refine Aa4 hS rfl rfl ?_;intro w hS
    obtain rfl:=Aa0 h
    exact hX _ rfl _ _ ⟨_,_,rfl,rfl,hS⟩
   obtain rfl:=Aa0 h
   have h:=congrArg some (hO _ rfl)
   exact hJ5 _ _ ⟨_,_,Aa0 h,rfl,hS⟩
  obtain rfl:=Aa0 h
  have h:=congrArg some (hO _ rfl)
  exact hJ5 _ _ ⟨_,_,Aa0 h,rfl,hS⟩
 clear h5 hS
 rintro s w ⟨t8,t9,rfl,rfl,hS⟩
 have h:=c5
 clear c5
 try dsimp only
 refine ⟨_,hS.cel mp0 rfl,_,hS.cel mp0 rfl,_,hS.cel mp0 rfl,?_⟩
 replace hS:=ro1 hS
 refine Aa4 hS rfl rfl ?_;intro w hS
 refine Aa4 hS rfl rfl ?_;intro w hS
 refine Aa4 hS rfl rfl ?_;intro w hS
 refine ⟨_,hS.cel mp0 rfl,_,hS.cel mp0 rfl,_,hS.cel mp0 rfl,?_⟩
 cases Aa0 h
 exact hK _ (hS.pick (A:=[_,_]) [] rfl)
theorem Au2 {q0 qj qm l0 u0} (hS:Ho w0 w L) (qw:EU L l0 q0 qj qm) (h:Ah7 l0=some u0) (hK:∀ (a0:OA) (n0 c0:Nat) (w1:World),Ho w0 w1 ((sl a0 n0 c0 (List.map (Value.int .u64) u0) N.Il0)::L)→K (.slice a0 n0 c0) w1):Aa1 P N.Hy3 #[.slice q0 qj qm] w K:=by
 refine H.r02_NatTrim q0 qj qm w _ ?_
 unfold Cg9
 unfold Ah7 at h
 try dsimp only
 obtain ⟨t1,ht1,h⟩:=bnd h
 obtain rfl:=An6 ht1 (qw.now (fun _ h=>h) hS)
 obtain ⟨o1,h1,c1⟩:=bnd h
 refine Ab0 (fun s w=>∃ (t2:Int),t2=o1∧s=(t2,())∧Ho w0 w L) (fun J1 hJ1=>?_) ?_
 ·
  have h:=h1
  clear h1
  refine Ab6 (fun s w t=>∃ (t3:Int),t3=t∧s=(t3,())∧Ho w0 w L) ?_ h ⟨_,rfl,rfl,hS⟩
  clear h hS
  rintro s w t X q ⟨t3,rfl,rfl,hS⟩ h hX hO
  unfold Ah2 at h
  try dsimp only
  refine Aa2 h ?_ ?_<;>intro hc h
  ·
   obtain ⟨t4,ht4,h⟩:=bnd h
   obtain ⟨q2x,qy,q2r⟩:=atE ht4
   refine Ac7 (qw.now (fun _ h=>h) hS) q2x qy q2r ?_;intro b3 hb3
   refine ⟨_,Ab4 (qw.now (fun _ h=>h) hS) hb3 q2x,?_⟩
   refine Aa2 h ?_ ?_<;>intro hc h
   ·
    obtain rfl:=Aa0 h
    exact hX _ rfl _ _ ⟨_,rfl,rfl,hS⟩
   obtain rfl:=Aa0 h
   have h:=congrArg some (hO _ rfl)
   exact hJ1 _ _ ⟨_,Aa0 h,rfl,hS⟩
  obtain rfl:=Aa0 h
  have h:=congrArg some (hO _ rfl)
  exact hJ1 _ _ ⟨_,Aa0 h,rfl,hS⟩
 clear h1 hS
 rintro s w ⟨t2,rfl,rfl,hS⟩
 have h:=c1
 clear c1
 try dsimp only
 obtain ⟨t5,ht5,h⟩:=bnd h
 obtain ⟨rfl,zk,ge,gf⟩:=Ew0 ht5
 have gg:=(qw.now (fun _ h=>h) hS).hiCap gf
 refine ⟨ge,gg,?_⟩
 obtain ⟨t6,ht6,h⟩:=bnd h
 obtain ⟨rfl,kt6⟩:=Gh2 ht6
 replace hS:=hS.none (α:=Int) (enc:=(Value.int .u64)) (t:=N.Il0)
 refine Bx6 hS kt6 ((Ent.upto (qw.mono tl1) ge gf).now (fun _ h=>h) hS) (fun _=>rfl) rfl ?_;clear hS kt6;intro a5 c5 w hS
 cases Aa0 h
 exact hK _ _ _ _ hS
theorem Br8 {q0 u0} (hS:Ho w0 w L)  (h:Af7 q0=some u0) (hK:∀ (a0:OA) (n0 c0:Nat) (w1:World),Ho w0 w1 ((sl a0 n0 c0 (List.map (Value.int .u64) u0) N.Il0)::L)→K (.slice a0 n0 c0) w1):Aa1 P N.Id5 #[.int .u64 q0] w K:=by
 refine H.r02_NatOf q0 w _ ?_
 unfold Dd5
 unfold Af7 at h
 try dsimp only
 obtain ⟨t1,ht1,h⟩:=bnd h
 obtain rfl:([q0]:List Int)=t1:=Aa0 ht1
 refine Ap0 (ks:=[q0]) (enc:=(Value.int .u64)) (m:=1) hS rfl rfl ?_;intro r1 w hS
 obtain ⟨t2,ht2,h⟩:=bnd h
 refine Au2 H hS (Ent.sl mp0) ht2 ?_;rintro a2 m2 c2 w hS
 refine ⟨_,_,_,rfl,?_⟩
 cases Aa0 h
 exact hK _ _ _ _ (hS.pick (A:=[_,_]) [0] rfl)
theorem Av9 {q0 u0 u1 u2} (hS:Ho w0 w L)  (h:Av4 (nf q0)=some (u0,u1,u2)) (hK:∀ (a1:OA) (n1 c1:Nat) (w1:World),Ho w0 w1 ((sl a1 n1 c1 (List.map (Value.int .u64) u1) N.Il0)::L)→K (.agg #[.bool u0,.slice a1 n1 c1,.int .i64 u2]) w1):Aa1 P N.Ic7 #[.float .f64 q0] w K:=by
 refine H.r02_Float q0 w _ ?_
 unfold Dj1
 unfold Av4 at h
 try dsimp only
 refine Aa9 hS ?_;intro r1 w hS
 obtain ⟨⟨t1,t2,t3,t4⟩,ho1,h⟩:=bnd h
 refine Ek7 H hS  ho1 ?_;clear hS ho1;rintro w hS
 refine ⟨_,_,_,_,rfl,?_⟩
 refine Aa9 hS ?_;intro r2 w hS
 refine Aa4 hS rfl rfl ?_;intro w hS
 refine Aa4 hS rfl rfl ?_;intro w hS
 refine Aa4 hS rfl rfl ?_;intro w hS
 refine ⟨_,hS.cel mp0 rfl,_,hS.cel mp0 rfl,_,hS.cel mp0 rfl,?_⟩
 refine Aa5 hS ?_;intro w hS
 obtain ⟨t5,ht5,h⟩:=bnd h
 refine Br8 H hS  ht5 ?_;rintro a3 m3 c3 w hS
 refine ⟨_,_,_,rfl,?_⟩
 refine ⟨(hS.cel mp1 rfl),?_⟩
 refine ⟨(hS.cel mp1 rfl),?_⟩
 refine Aa5 hS ?_;intro w hS
 replace hS:=ro2 hS
 refine Aa4 hS rfl rfl ?_;intro w hS
 refine Aa4 hS rfl rfl ?_;intro w hS
 refine Aa4 hS rfl rfl ?_;intro w hS
 refine Aa5 hS ?_;intro w hS
 refine ⟨_,hS.cel mp0 rfl,_,_,_,hS.cel mp0 rfl,_,hS.cel mp0 rfl,?_⟩
 cases Aa0 h
 exact hK _ _ _ _ (hS.pick (A:=[_,_,_]) [1] rfl)
theorem Co2 {q0 qj qm l0 u0b} (hS:Ho w0 w L) (qw:EU L l0 q0 qj qm) (h:Bf6 l0=some u0b) (hK:∀ w1,Ho w0 w1 L→K (.slice (An7 q0 0 qm 1) u0b.toNat qm) w1):Aa1 P N.Ij2 #[.slice q0 qj qm] w K:=by
 refine H.r02_low q0 qj qm w _ ?_
 unfold Em5
 unfold Bf6 at h
 try dsimp only
 obtain ⟨t1,ht1,h⟩:=bnd h
 obtain rfl:=An6 ht1 (qw.now (fun _ h=>h) hS)
 obtain ⟨o1,h1,c1⟩:=bnd h
 refine Ab0 (fun s w=>∃ (t2:Int),t2=o1∧s=(t2,())∧Ho w0 w L) (fun J1 hJ1=>?_) ?_
 ·
  have h:=h1
  clear h1
  refine Ab6 (fun s w t=>∃ (t3:Int),t3=t∧s=(t3,())∧Ho w0 w L) ?_ h ⟨_,rfl,rfl,hS⟩
  clear h hS
  rintro s w t X q ⟨t3,rfl,rfl,hS⟩ h hX hO
  unfold Bu1 at h
  try dsimp only
  refine Aa2 h ?_ ?_<;>intro hc h
  ·
   obtain ⟨t4,ht4,h⟩:=bnd h
   obtain ⟨q2x,qy,q2r⟩:=atE ht4
   refine Ac7 (qw.now (fun _ h=>h) hS) q2x qy q2r ?_;intro b3 hb3
   refine ⟨_,Ab4 (qw.now (fun _ h=>h) hS) hb3 q2x,?_⟩
   refine Aa2 h ?_ ?_<;>intro hc h
   ·
    obtain rfl:=Aa0 h
    exact hX _ rfl _ _ ⟨_,rfl,rfl,hS⟩
   obtain rfl:=Aa0 h
   have h:=congrArg some (hO _ rfl)
   exact hJ1 _ _ ⟨_,Aa0 h,rfl,hS⟩
  obtain rfl:=Aa0 h
  have h:=congrArg some (hO _ rfl)
  exact hJ1 _ _ ⟨_,Aa0 h,rfl,hS⟩
 clear h1 hS
 rintro s w ⟨t2,rfl,rfl,hS⟩
 have h:=c1
 clear c1
 try dsimp only
 obtain ⟨t5,ht5,h⟩:=bnd h
 obtain ⟨rfl,zk,ge,gf⟩:=Ew0 ht5
 have gg:=(qw.now (fun _ h=>h) hS).hiCap gf
 refine ⟨ge,gg,?_⟩
 cases Aa0 h
 exact hK _ hS
theorem Al6 {q0 qj qm l0 u0} (hS:Ho w0 w L) (qw:EU L l0 q0 qj qm) (h:Ag4 l0=some u0) (hK:∀ (a0:OA) (n0 c0:Nat) (w1:World),Ho w0 w1 ((sl a0 n0 c0 (List.map (Value.int .u64) u0) N.Il0)::L)→K (.slice a0 n0 c0) w1):Aa1 P N.Hz4 #[.slice q0 qj qm] w K:=by
 refine H.r02_halves q0 qj qm w _ ?_
 unfold Cp0
 unfold Ag4 at h
 try dsimp only
 obtain ⟨o4,h4,c4⟩:=bnd h
 refine Ab0 (fun s w=>∃ (a1:OA) (m2:Nat) (c3:Nat) (t1:List Int),t1=o4∧s=((a1,m2,c3),())∧Ho w0 w ((sl a1 m2 c3 (List.map (Value.int .u64) t1) N.Il0)::L)) (fun J4 hJ4=>?_) ?_
 ·
  have h:=h4
  clear h4
  replace hS:=hS.none (α:=Int) (enc:=(Value.int .u64)) (t:=N.Il0)
  refine Ab6 (fun s w t=>∃ (t2:Int) (a5:OA) (m6:Nat) (c7:Nat) (t3:List Int),(t2,t3)=t∧s=((a5,m6,c7),t2,())∧Ho w0 w ((sl a5 m6 c7 (List.map (Value.int .u64) t3) N.Il0)::L)) ?_ h ⟨_,_,_,_,_,rfl,rfl,hS⟩
  clear h hS
  rintro s w t X q ⟨t2,a5,m6,c7,t3,rfl,rfl,hS⟩ h hX hO
  unfold Am7 at h
  try dsimp only
  obtain ⟨t4,ht4,h⟩:=bnd h
  obtain rfl:=An6 ht4 ((qw.mono tl1).now (fun _ h=>h) hS)
  refine Aa2 h ?_ ?_<;>intro hc h
  ·
   obtain ⟨t5,ht5,h⟩:=bnd h
   obtain ⟨q8x,yj,q8r⟩:=atE ht5
   refine Ac7 ((qw.mono tl1).now (fun _ h=>h) hS) q8x yj q8r ?_;intro b9 hb9
   refine ⟨_,Ab4 ((qw.mono tl1).now (fun _ h=>h) hS) hb9 q8x,?_⟩
   refine ⟨by decide,?_⟩
   obtain ⟨t6,ht6,h⟩:=bnd h
   obtain ⟨q10x,yk,q10r⟩:=atE ht6
   refine Ac7 ((qw.mono tl1).now (fun _ h=>h) hS) q10x yk q10r ?_;intro b11 hb11
   refine ⟨_,Ab4 ((qw.mono tl1).now (fun _ h=>h) hS) hb11 q10x,?_⟩
   refine ⟨by decide,?_⟩
   refine Aa5 hS ?_;intro w hS
   obtain ⟨t7,ht7,h⟩:=bnd h
   obtain rfl:([(t5.tmod 4294967296),(u64.wrap (t6.tdiv 4294967296))]:List Int)=t7:=Aa0 ht7
   refine Ap0 (ks:=[(t5.tmod 4294967296),(u64.wrap (t6.tdiv 4294967296))]) (enc:=(Value.int .u64)) (m:=2) hS rfl rfl ?_;intro r12 w hS
   refine Aa5 hS ?_;intro w hS
   obtain ⟨t8,ht8,h⟩:=bnd h
   obtain ⟨rfl,kt8⟩:=Gh2 ht8
   replace hS:=ro1 hS
   refine Bx6 hS kt8 ((Ent.sl mp1).now (fun _ h=>h) hS) (fun _=>rfl) rfl ?_;clear hS kt8;intro a13 c13 w hS
   refine Aa5 hS ?_;intro w hS
   obtain rfl:=Aa0 h
   exact hX _ rfl _ _ ⟨_,_,_,_,_,rfl,rfl,(hS.pick (A:=[_,_]) [0] rfl)⟩
  obtain rfl:=Aa0 h
  have h:=congrArg some (hO _ rfl)
  exact hJ4 _ _ ⟨_,_,_,_,Aa0 h,rfl,hS⟩
 clear h4 hS
 rintro s w ⟨a1,m2,c3,t1,rfl,rfl,hS⟩
 have h:=c4
 clear c4
 try dsimp only
 obtain ⟨t9,ht9,h⟩:=bnd h
 refine Co2 H hS (Ent.sl mp0) ht9 ?_;rintro w hS
 refine ⟨_,_,_,rfl,?_⟩
 obtain ⟨t10,ht10,h⟩:=bnd h
 obtain ⟨rfl,ze,zf,jj⟩:=Ew0 ht10
 have zg:=((Ent.sl mp0).now (fun _ h=>h) hS).hiCap jj
 replace hS:=Ho.cut hS jj
 cases Aa0 h
 exact hK _ _ _ _ hS
theorem Do6 {q0 qj qm l0 q1 qo qu l1 u0} (hS:Ho w0 w L) (qw:EU L l0 q0 qj qm) (ve:EU L l1 q1 qo qu) (h:Ay0 l0 l1=some u0) (hK:∀ (a0:OA) (n0 c0:Nat) (w1:World),Ho w0 w1 ((sl a0 n0 c0 (List.map (Value.int .u64) u0) N.Il0)::L)→K (.slice a0 n0 c0) w1):Aa1 P N.Hx3 #[.slice q0 qj qm,.slice q1 qo qu] w K:=by
 refine H.r02_product q0 qj qm q1 qo qu w _ ?_
 unfold Cg1
 unfold Ay0 at h
 try dsimp only
 obtain ⟨t1,ht1,h⟩:=bnd h
 obtain rfl:=An6 ht1 (qw.now (fun _ h=>h) hS)
 obtain ⟨t2,ht2,h⟩:=bnd h
 obtain rfl:=An6 ht2 (ve.now (fun _ h=>h) hS)
 obtain ⟨t3,ht3,h⟩:=bnd h
 obtain ⟨rfl,kt3⟩:=mkE ht3
 refine Ft4 (enc:=(Value.int .u64)) hS kt3 rfl ?_;clear hS kt3;intro r1 w hS
 obtain ⟨o2,h2,c2⟩:=bnd h
 refine Ab0 (fun s w=>∃ (t4:List Int),t4=o2∧s=(())∧Ho w0 w ((sl (some ⟨r1,0,none⟩) (((i64.wrap ((qj:Int)+(qo:Int)))).toNat) (((i64.wrap ((qj:Int)+(qo:Int)))).toNat) (List.map (Value.int .u64) t4) N.Il0)::L)) (fun J2 hJ2=>?_) ?_
 ·
  have h:=h2
  clear h2
  refine Ab6 (fun s w t=>∃ (t5:Int) (t6:List Int),(t5,t6)=t∧s=(t5,())∧Ho w0 w ((sl (some ⟨r1,0,none⟩) (((i64.wrap ((qj:Int)+(qo:Int)))).toNat) (((i64.wrap ((qj:Int)+(qo:Int)))).toNat) (List.map (Value.int .u64) t6) N.Il0)::L)) ?_ h ⟨_,_,rfl,rfl,hS⟩
  clear h hS
  rintro s w t X q ⟨t5,t6,rfl,rfl,hS⟩ h hX hO
  unfold Ak4 at h
  try dsimp only
  obtain ⟨t7,ht7,h⟩:=bnd h
  obtain rfl:=An6 ht7 ((qw.mono tl1).now (fun _ h=>h) hS)
  refine Aa2 h ?_ ?_<;>intro hc h
  ·
   obtain ⟨o3,h3,c3⟩:=bnd h
   refine Ab0 (fun s w=>∃ (t8:Int) (t9:List Int),(t8,t9)=o3∧s=(t8,())∧Ho w0 w ((sl (some ⟨r1,0,none⟩) (((i64.wrap ((qj:Int)+(qo:Int)))).toNat) (((i64.wrap ((qj:Int)+(qo:Int)))).toNat) (List.map (Value.int .u64) t9) N.Il0)::L)) (fun J3 hJ3=>?_) ?_
   ·
    have h:=h3
    clear h3
    refine Ab6 (fun s w t=>∃ (t10:Int) (t11:Int) (t12:List Int),(t10,t11,t12)=t∧s=(t10,t11,())∧Ho w0 w ((sl (some ⟨r1,0,none⟩) (((i64.wrap ((qj:Int)+(qo:Int)))).toNat) (((i64.wrap ((qj:Int)+(qo:Int)))).toNat) (List.map (Value.int .u64) t12) N.Il0)::L)) ?_ h ⟨_,_,_,rfl,rfl,hS⟩
    clear h hS
    rintro s w t X q ⟨t10,t11,t12,rfl,rfl,hS⟩ h hX hO
    unfold Ak3 at h
    try dsimp only
    obtain ⟨t13,ht13,h⟩:=bnd h
    obtain rfl:=An6 ht13 ((ve.mono tl1).now (fun _ h=>h) hS)
    refine Aa2 h ?_ ?_<;>intro hc h
    ·
     obtain ⟨t14,ht14,h⟩:=bnd h
     obtain ⟨q4x,yv,q4r⟩:=atE ht14
     refine Ac7 ((qw.mono tl1).now (fun _ h=>h) hS) q4x yv q4r ?_;intro b5 hb5
     refine ⟨_,Ab4 ((qw.mono tl1).now (fun _ h=>h) hS) hb5 q4x,?_⟩
     obtain ⟨t15,ht15,h⟩:=bnd h
     obtain ⟨q6x,yh,q6r⟩:=atE ht15
     refine Ac7 ((ve.mono tl1).now (fun _ h=>h) hS) q6x yh q6r ?_;intro b7 hb7
     refine ⟨_,Ab4 ((ve.mono tl1).now (fun _ h=>h) hS) hb7 q6x,?_⟩
     obtain ⟨t16,ht16,h⟩:=bnd h
     obtain ⟨q8x,yj,q8r⟩:=atE ht16
     refine Bh6 ((Ent.sl mp0).now (fun _ h=>h) hS) q8x yj q8r ?_
     refine ⟨_,Ab4 ((Ent.sl mp0).now (fun _ h=>h) hS) rfl q8x,?_⟩
     refine Aa5 hS ?_;intro w hS
     refine ⟨by decide,?_⟩
     obtain ⟨t17,ht17,h⟩:=bnd h
     obtain ⟨q10x,yk,q10r⟩:=atE ht17
     refine Bh6 ((Ent.sl mp0).now (fun _ h=>h) hS) q10x yk q10r ?_
     obtain ⟨t18,ht18,h⟩:=bnd h
     obtain rfl:=Aa0 ht18
     refine Bj9 hS rfl q10r ?_;intro w hS
     refine ⟨by decide,?_⟩
     obtain rfl:=Aa0 h
     exact hX _ rfl _ _ ⟨_,_,_,rfl,rfl,hS⟩
    obtain rfl:=Aa0 h
    have h:=congrArg some (hO _ rfl)
    exact hJ3 _ _ ⟨_,_,Aa0 h,rfl,hS⟩
   clear h3 hS
   rintro s w ⟨t8,t9,rfl,rfl,hS⟩
   have h:=c3
   clear c3
   try dsimp only
   obtain ⟨t19,ht19,h⟩:=bnd h
   obtain rfl:=An6 ht19 ((ve.mono tl1).now (fun _ h=>h) hS)
   obtain ⟨t20,ht20,h⟩:=bnd h
   obtain ⟨q12x,jv,q12r⟩:=atE ht20
   refine Bh6 ((Ent.sl mp0).now (fun _ h=>h) hS) q12x jv q12r ?_
   obtain ⟨t21,ht21,h⟩:=bnd h
   obtain rfl:=Aa0 ht21
   refine Bj9 hS rfl q12r ?_;intro w hS
   obtain rfl:=Aa0 h
   exact hX _ rfl _ _ ⟨_,_,rfl,rfl,hS⟩
  obtain rfl:=Aa0 h
  have h:=congrArg some (hO _ rfl)
  exact hJ2 _ _ ⟨_,Aa0 h,rfl,hS⟩
 clear h2 hS
 rintro s w ⟨t4,rfl,rfl,hS⟩
 have h:=c2
 clear c2
 try dsimp only
 obtain ⟨t22,ht22,h⟩:=bnd h
 refine Co2 H hS (Ent.sl mp0) ht22 ?_;rintro w hS
 refine ⟨_,_,_,rfl,?_⟩
 obtain ⟨t23,ht23,h⟩:=bnd h
 obtain ⟨rfl,ze,zf,jj⟩:=Ew0 ht23
 have zg:=((Ent.sl mp0).now (fun _ h=>h) hS).hiCap jj
 replace hS:=Ho.cut hS jj
 cases Aa0 h
 exact hK _ _ _ _ hS
theorem Bd1 {q0 qj qm l0 u0} (hS:Ho w0 w L) (qw:EU L l0 q0 qj qm) (h:Ao2 l0=some u0) (hK:∀ (a0:OA) (n0 c0:Nat) (w1:World),Ho w0 w1 ((sl a0 n0 c0 (List.map (Value.int .u64) u0) N.Il0)::L)→K (.slice a0 n0 c0) w1):Aa1 P N.Id2 #[.slice q0 qj qm] w K:=by
 refine H.r02_limbs q0 qj qm w _ ?_
 unfold Dh6
 unfold Ao2 at h
 try dsimp only
 obtain ⟨o4,h4,c4⟩:=bnd h
 refine Ab0 (fun s w=>∃ (a1:OA) (m2:Nat) (c3:Nat) (t1:List Int),t1=o4∧s=((a1,m2,c3),())∧Ho w0 w ((sl a1 m2 c3 (List.map (Value.int .u64) t1) N.Il0)::L)) (fun J4 hJ4=>?_) ?_
 ·
  have h:=h4
  clear h4
  replace hS:=hS.none (α:=Int) (enc:=(Value.int .u64)) (t:=N.Il0)
  refine Ab6 (fun s w t=>∃ (t2:Int) (a5:OA) (m6:Nat) (c7:Nat) (t3:List Int),(t2,t3)=t∧s=((a5,m6,c7),t2,())∧Ho w0 w ((sl a5 m6 c7 (List.map (Value.int .u64) t3) N.Il0)::L)) ?_ h ⟨_,_,_,_,_,rfl,rfl,hS⟩
  clear h hS
  rintro s w t X q ⟨t2,a5,m6,c7,t3,rfl,rfl,hS⟩ h hX hO
  unfold Ap5 at h
  try dsimp only
  obtain ⟨t4,ht4,h⟩:=bnd h
  obtain rfl:=An6 ht4 ((qw.mono tl1).now (fun _ h=>h) hS)
  refine Aa2 h ?_ ?_<;>intro hc h
  ·
   obtain ⟨t5,ht5,h⟩:=bnd h
   obtain ⟨q8x,yj,q8r⟩:=atE ht5
   refine Ac7 ((qw.mono tl1).now (fun _ h=>h) hS) q8x yj q8r ?_;intro b9 hb9
   refine ⟨_,Ab4 ((qw.mono tl1).now (fun _ h=>h) hS) hb9 q8x,?_⟩
   obtain ⟨t6,ht6,h⟩:=bnd h
   obtain rfl:=An6 ht6 ((qw.mono tl1).now (fun _ h=>h) hS)
   obtain ⟨o10,h10,c10⟩:=bnd h
   refine Ab0 (fun s w=>∃ (t7:Int),t7=o10∧s=(t7,())∧Ho w0 w ((sl a5 m6 c7 (List.map (Value.int .u64) t3) N.Il0)::L)) (fun J10 hJ10=>?_) ?_
   ·
    have h:=h10
    clear h10
    refine Aa2 h ?_ ?_<;>intro hc h
    ·
     obtain ⟨t8,ht8,h⟩:=bnd h
     obtain ⟨q11x,yq,q11r⟩:=atE ht8
     refine Ac7 ((qw.mono tl1).now (fun _ h=>h) hS) q11x yq q11r ?_;intro b12 hb12
     refine ⟨_,Ab4 ((qw.mono tl1).now (fun _ h=>h) hS) hb12 q11x,?_⟩
     exact hJ10 _ _ ⟨_,Aa0 h,rfl,hS⟩
    exact hJ10 _ _ ⟨_,Aa0 h,rfl,hS⟩
   clear h10 hS
   rintro s w ⟨t7,rfl,rfl,hS⟩
   have h:=c10
   clear c10
   try dsimp only
   obtain ⟨t9,ht9,h⟩:=bnd h
   obtain rfl:([t7]:List Int)=t9:=Aa0 ht9
   refine Ap0 (ks:=[t7]) (enc:=(Value.int .u64)) (m:=1) hS rfl rfl ?_;intro r13 w hS
   obtain ⟨t10,ht10,h⟩:=bnd h
   obtain ⟨rfl,kt10⟩:=Gh2 ht10
   replace hS:=ro1 hS
   refine Bx6 hS kt10 ((Ent.sl mp1).now (fun _ h=>h) hS) (fun _=>rfl) rfl ?_;clear hS kt10;intro a14 c14 w hS
   obtain rfl:=Aa0 h
   exact hX _ rfl _ _ ⟨_,_,_,_,_,rfl,rfl,(hS.pick (A:=[_,_]) [0] rfl)⟩
  obtain rfl:=Aa0 h
  have h:=congrArg some (hO _ rfl)
  exact hJ4 _ _ ⟨_,_,_,_,Aa0 h,rfl,hS⟩
 clear h4 hS
 rintro s w ⟨a1,m2,c3,t1,rfl,rfl,hS⟩
 have h:=c4
 clear c4
 try dsimp only
 obtain ⟨t11,ht11,h⟩:=bnd h
 refine Au2 H hS (Ent.sl mp0) ht11 ?_;rintro a15 m15 c15 w hS
 refine ⟨_,_,_,rfl,?_⟩
 cases Aa0 h
 exact hK _ _ _ _ (hS.pick (A:=[_,_]) [0] rfl)
theorem Eb7 {q0 qj qm l0 q1 qo qu l1 u0} (hS:Ho w0 w L) (qw:EU L l0 q0 qj qm) (ve:EU L l1 q1 qo qu) (h:Bd0 l0 l1=some u0) (hK:∀ (a0:OA) (n0 c0:Nat) (w1:World),Ho w0 w1 ((sl a0 n0 c0 (List.map (Value.int .u64) u0) N.Il0)::L)→K (.slice a0 n0 c0) w1):Aa1 P N.Ic5 #[.slice q0 qj qm,.slice q1 qo qu] w K:=by
 refine H.r02_NatMul q0 qj qm q1 qo qu w _ ?_
 unfold Cq7
 unfold Bd0 at h
 try dsimp only
 obtain ⟨t1,ht1,h⟩:=bnd h
 refine Al6 H hS qw ht1 ?_;rintro a1 m1 c1 w hS
 refine ⟨_,_,_,rfl,?_⟩
 obtain ⟨t2,ht2,h⟩:=bnd h
 refine Al6 H hS (ve.mono tl1) ht2 ?_;rintro a2 m2 c2 w hS
 refine ⟨_,_,_,rfl,?_⟩
 obtain ⟨t3,ht3,h⟩:=bnd h
 refine Do6 H hS (Ent.sl mp1) (Ent.sl mp0) ht3 ?_;rintro a3 m3 c3 w hS
 refine ⟨_,_,_,rfl,?_⟩
 obtain ⟨t4,ht4,h⟩:=bnd h
 refine Bd1 H hS (Ent.sl mp0) ht4 ?_;rintro a4 m4 c4 w hS
 refine ⟨_,_,_,rfl,?_⟩
 cases Aa0 h
 exact hK _ _ _ _ (hS.pick (A:=[_,_,_,_]) [0] rfl)
theorem Bi3 {qb qc qe qg l0_1 qd ql qk qh qi l1_1 qq u0 u1 u2} (hS:Ho w0 w L) (qn:EU L l0_1 qc qe qg) (qv:EU L l1_1 qk qh qi) (h:Bh1 qb l0_1 qd ql l1_1 qq=some (u0,u1,u2)) (hK:∀ (a1:OA) (n1 c1:Nat) (w1:World),Ho w0 w1 ((sl a1 n1 c1 (List.map (Value.int .u64) u1) N.Il0)::L)→K (.agg #[.bool u0,.slice a1 n1 c1,.int .i64 u2]) w1):Aa1 P N.Id4 #[.agg #[.bool qb,.slice qc qe qg,.int .i64 qd],.agg #[.bool ql,.slice qk qh qi,.int .i64 qq]] w K:=by
 refine H.r02_Times qb qc qe qg qd ql qk qh qi qq w _ ?_
 unfold Dh5
 unfold Bh1 at h
 try dsimp only
 refine Aa9 hS ?_;intro r1 w hS
 refine Aa9 hS ?_;intro r2 w hS
 refine Aa9 hS ?_;intro r3 w hS
 refine ⟨_,hS.cel mp2 rfl,_,hS.cel mp1 rfl,_,_,_,hS.cel mp2 rfl,_,_,_,hS.cel mp1 rfl,_,hS.cel mp2 rfl,_,hS.cel mp1 rfl,?_⟩
 refine Aa5 hS ?_;intro w hS
 obtain ⟨t1,ht1,h⟩:=bnd h
 refine Eb7 H hS (qn.mono tl3) (qv.mono tl3) ht1 ?_;rintro a4 m4 c4 w hS
 refine ⟨_,_,_,rfl,?_⟩
 refine ⟨(hS.cel mp2 rfl),?_⟩
 refine ⟨(hS.cel mp3 rfl),?_⟩
 refine ⟨(hS.cel mp2 rfl),?_⟩
 refine ⟨(hS.cel mp3 rfl),?_⟩
 refine Aa5 hS ?_;intro w hS
 replace hS:=ro1 hS
 refine Aa4 hS rfl rfl ?_;intro w hS
 refine Aa4 hS rfl rfl ?_;intro w hS
 refine Aa4 hS rfl rfl ?_;intro w hS
 refine Aa5 hS ?_;intro w hS
 refine ⟨_,hS.cel mp0 rfl,_,_,_,hS.cel mp0 rfl,_,hS.cel mp0 rfl,?_⟩
 cases Aa0 h
 exact hK _ _ _ _ (hS.pick (A:=[_,_,_,_]) [1] rfl)
theorem Ei9 {qb qc qe qg l0_1 qd u0 u1 u2} (hS:Ho w0 w L) (qn:EU L l0_1 qc qe qg) (h:Bp3 qb l0_1 qd=some (u0,u1,u2)) (hK:∀ w1,l0_1=u1→Ho w0 w1 L→K (.agg #[.bool u0,.slice qc qe qg,.int .i64 u2]) w1):Aa1 P N.Ie9 #[.agg #[.bool qb,.slice qc qe qg,.int .i64 qd]] w K:=by
 refine H.r02_Minus qb qc qe qg qd w _ ?_
 unfold Dh8
 unfold Bp3 at h
 try dsimp only
 refine Aa9 hS ?_;intro r1 w hS
 refine Aa9 hS ?_;intro r2 w hS
 refine ⟨_,hS.cel mp1 rfl,_,_,_,hS.cel mp1 rfl,_,hS.cel mp1 rfl,?_⟩
 refine Aa4 hS rfl rfl ?_;intro w hS
 refine Aa4 hS rfl rfl ?_;intro w hS
 refine Aa4 hS rfl rfl ?_;intro w hS
 refine ⟨_,hS.cel mp0 rfl,_,_,_,hS.cel mp0 rfl,_,hS.cel mp0 rfl,?_⟩
 cases Aa0 h
 exact hK _ rfl (hS.pick (A:=[_,_]) [] rfl)
theorem Bk3 {q0 qj qm l0 u0} (hS:Ho w0 w L) (qw:EU L l0 q0 qj qm) (h:Ao4 l0=some u0) (hK:∀ w1,Ho w0 w1 L→K (.int .i64 u0) w1):Aa1 P N.Hy9 #[.slice q0 qj qm] w K:=by
 refine H.r02_NatBits q0 qj qm w _ ?_
 unfold Ce8
 unfold Ao4 at h
 try dsimp only
 obtain ⟨t1,ht1,h⟩:=bnd h
 refine Au2 H hS qw ht1 ?_;rintro a1 m1 c1 w hS
 refine ⟨_,_,_,rfl,?_⟩
 obtain ⟨t2,ht2,h⟩:=bnd h
 obtain rfl:=An6 ht2 ((Ent.sl mp0).now (fun _ h=>h) hS)
 refine Aa2 h ?_ ?_<;>intro hc h
 ·
  cases Aa0 h
  exact hK _ (hS.pick (A:=[_]) [] rfl)
 obtain ⟨t3,ht3,h⟩:=bnd h
 obtain rfl:=An6 ht3 ((Ent.sl mp0).now (fun _ h=>h) hS)
 obtain ⟨t4,ht4,h⟩:=bnd h
 obtain rfl:=An6 ht4 ((Ent.sl mp0).now (fun _ h=>h) hS)
 obtain ⟨t5,ht5,h⟩:=bnd h
 obtain ⟨q2x,qy,q2r⟩:=atE ht5
 refine Ac7 ((Ent.sl mp0).now (fun _ h=>h) hS) q2x qy q2r ?_;intro b3 hb3
 refine ⟨_,Ab4 ((Ent.sl mp0).now (fun _ h=>h) hS) hb3 q2x,?_⟩
 obtain ⟨o4,h4,c4⟩:=bnd h
 refine Ab0 (fun s w=>∃ (t6:Int),t6=o4∧s=(t6,())∧Ho w0 w L) (fun J4 hJ4=>?_) ?_
 ·
  have h:=h4
  clear h4
  refine Ab6 (fun s w t=>∃ (t7:Int) (t8:Int),(t7,t8)=t∧s=(t7,t8,())∧Ho w0 w L) ?_ h ⟨_,_,rfl,rfl,(hS.pick (A:=[_]) [] rfl)⟩
  clear h hS
  rintro s w t X q ⟨t7,t8,rfl,rfl,hS⟩ h hX hO
  unfold Ak6 at h
  try dsimp only
  refine Aa2 h ?_ ?_<;>intro hc h
  ·
   refine ⟨by decide,?_⟩
   obtain rfl:=Aa0 h
   exact hX _ rfl _ _ ⟨_,_,rfl,rfl,hS⟩
  obtain rfl:=Aa0 h
  have h:=congrArg some (hO _ rfl)
  exact hJ4 _ _ ⟨_,Aa0 h,rfl,hS⟩
 clear h4 hS
 rintro s w ⟨t6,rfl,rfl,hS⟩
 have h:=c4
 clear c4
 try dsimp only
 cases Aa0 h
 exact hK _ hS
theorem Ar3 {qb qc qe qg l0_1 qd u0} (hS:Ho w0 w L) (qn:EU L l0_1 qc qe qg) (h:Ag6 qb l0_1 qd=some u0) (hK:∀ w1,Ho w0 w1 L→K (.bool u0) w1):Aa1 P N.Hw4 #[.agg #[.bool qb,.slice qc qe qg,.int .i64 qd]] w K:=by
 refine H.r02_Num_Zero qb qc qe qg qd w _ ?_
 unfold Cc6
 unfold Ag6 at h
 try dsimp only
 refine Aa9 hS ?_;intro r1 w hS
 refine ⟨_,_,_,hS.cel mp0 rfl,?_⟩
 obtain ⟨t1,ht1,h⟩:=bnd h
 refine Bk3 H hS (qn.mono tl1) ht1 ?_;rintro w hS
 refine ⟨_,rfl,?_⟩
 cases Aa0 h
 exact hK _ (hS.pick (A:=[_]) [] rfl)
theorem Bt1 {q0 qj qm l0 q1 u0} (hS:Ho w0 w L) (qw:EU L l0 q0 qj qm) (h:Ao3 l0 q1=some u0) (hK:∀ (a0:OA) (n0 c0:Nat) (w1:World),Ho w0 w1 ((sl a0 n0 c0 (List.map (Value.int .u64) u0) N.Il0)::L)→K (.slice a0 n0 c0) w1):Aa1 P N.If1 #[.slice q0 qj qm,.int .i64 q1] w K:=by
 refine H.r02_NatUp q0 qj qm q1 w _ ?_
 unfold Dk1
 unfold Ao3 at h
 try dsimp only
 obtain ⟨t1,ht1,h⟩:=bnd h
 refine Al6 H hS qw ht1 ?_;rintro a1 m1 c1 w hS
 refine ⟨_,_,_,rfl,?_⟩
 obtain ⟨t2,ht2,h⟩:=bnd h
 obtain rfl:=An6 ht2 ((Ent.sl mp0).now (fun _ h=>h) hS)
 refine Aa2 h ?_ ?_<;>intro hc h
 ·
  replace hS:=hS.none (α:=Int) (enc:=(Value.int .u64)) (t:=N.Il0)
  cases Aa0 h
  exact hK _ _ _ _ (hS.pick (A:=[_,_]) [0] rfl)
 refine ⟨by decide,?_⟩
 obtain ⟨t3,ht3,h⟩:=bnd h
 obtain ⟨rfl,kt3⟩:=mkE ht3
 refine Ft4 (enc:=(Value.int .u64)) hS kt3 rfl ?_;clear hS kt3;intro r2 w hS
 obtain ⟨o3,h3,c3⟩:=bnd h
 refine Ab0 (fun s w=>∃ (t4:Int),t4=o3∧s=(t4,())∧Ho w0 w ((sl (some ⟨r2,0,none⟩) (((i64.wrap (q1.tdiv 32))).toNat) (((i64.wrap (q1.tdiv 32))).toNat) (List.map (Value.int .u64) (List.replicate (((i64.wrap (q1.tdiv 32))).toNat) 0)) N.Il0)::(sl a1 m1 c1 (List.map (Value.int .u64) t1) N.Il0)::L)) (fun J3 hJ3=>?_) ?_
 ·
  have h:=h3
  clear h3
  refine Ab6 (fun s w t=>∃ (t5:Int) (t6:Int),(t5,t6)=t∧s=(t5,t6,())∧Ho w0 w ((sl (some ⟨r2,0,none⟩) (((i64.wrap (q1.tdiv 32))).toNat) (((i64.wrap (q1.tdiv 32))).toNat) (List.map (Value.int .u64) (List.replicate (((i64.wrap (q1.tdiv 32))).toNat) 0)) N.Il0)::(sl a1 m1 c1 (List.map (Value.int .u64) t1) N.Il0)::L)) ?_ h ⟨_,_,rfl,rfl,hS⟩
  clear h hS
  rintro s w t X q ⟨t5,t6,rfl,rfl,hS⟩ h hX hO
  unfold Ba4 at h
  try dsimp only
  refine ⟨by decide,?_⟩
  refine Aa2 h ?_ ?_<;>intro hc h
  ·
   obtain rfl:=Aa0 h
   exact hX _ rfl _ _ ⟨_,_,rfl,rfl,hS⟩
  obtain rfl:=Aa0 h
  have h:=congrArg some (hO _ rfl)
  exact hJ3 _ _ ⟨_,Aa0 h,rfl,hS⟩
 clear h3 hS
 rintro s w ⟨t4,rfl,rfl,hS⟩
 have h:=c3
 clear c3
 try dsimp only
 obtain ⟨o7,h7,c7⟩:=bnd h
 refine Ab0 (fun s w=>∃ (t7:Int) (a4:OA) (m5:Nat) (c6:Nat) (t8:List Int),(t7,t8)=o7∧s=((a4,m5,c6),t7,())∧Ho w0 w ((sl a4 m5 c6 (List.map (Value.int .u64) t8) N.Il0)::L)) (fun J7 hJ7=>?_) ?_
 ·
  have h:=h7
  clear h7
  refine Ab6 (fun s w t=>∃ (t9:Int) (t10:Int) (a8:OA) (m9:Nat) (c10:Nat) (t11:List Int),(t9,t10,t11)=t∧s=((a8,m9,c10),t9,t10,())∧Ho w0 w ((sl a1 m1 c1 (List.map (Value.int .u64) t1) N.Il0)::(sl a8 m9 c10 (List.map (Value.int .u64) t11) N.Il0)::L)) ?_ h ⟨_,_,_,_,_,_,rfl,rfl,(hS.pick (A:=[_,_]) [1,0] rfl)⟩
  clear h hS
  rintro s w t X q ⟨t9,t10,a8,m9,c10,t11,rfl,rfl,hS⟩ h hX hO
  unfold Ap3 at h
  try dsimp only
  obtain ⟨t12,ht12,h⟩:=bnd h
  obtain rfl:=An6 ht12 ((Ent.sl mp0).now (fun _ h=>h) hS)
  refine Aa2 h ?_ ?_<;>intro hc h
  ·
   obtain ⟨t13,ht13,h⟩:=bnd h
   obtain ⟨q11x,yq,q11r⟩:=atE ht13
   refine Ac7 ((Ent.sl mp0).now (fun _ h=>h) hS) q11x yq q11r ?_;intro b12 hb12
   refine ⟨_,Ab4 ((Ent.sl mp0).now (fun _ h=>h) hS) hb12 q11x,?_⟩
   refine ⟨by decide,?_⟩
   obtain ⟨t14,ht14,h⟩:=bnd h
   obtain rfl:([((u64.wrap ((u64.wrap (t13*t4))+t9)).tmod 4294967296)]:List Int)=t14:=Aa0 ht14
   refine Ap0 (ks:=[((u64.wrap ((u64.wrap (t13*t4))+t9)).tmod 4294967296)]) (enc:=(Value.int .u64)) (m:=1) hS rfl rfl ?_;intro r13 w hS
   obtain ⟨t15,ht15,h⟩:=bnd h
   obtain ⟨rfl,kt15⟩:=Gh2 ht15
   replace hS:=ro2 hS
   refine Bx6 hS kt15 ((Ent.sl mp1).now (fun _ h=>h) hS) (fun _=>rfl) rfl ?_;clear hS kt15;intro a14 c14 w hS
   refine ⟨by decide,?_⟩
   obtain rfl:=Aa0 h
   exact hX _ rfl _ _ ⟨_,_,_,_,_,_,rfl,rfl,(hS.pick (A:=[_,_,_]) [2,0] rfl)⟩
  obtain rfl:=Aa0 h
  have h:=congrArg some (hO _ rfl)
  obtain rfl:=Aa0 h
  exact hJ7 _ _ ⟨_,_,_,_,_,rfl,rfl,(hS.pick (A:=[_,_]) [1] rfl)⟩
 clear h7 hS
 rintro s w ⟨t7,a4,m5,c6,t8,rfl,rfl,hS⟩
 have h:=c7
 clear c7
 try dsimp only
 obtain ⟨t16,ht16,h⟩:=bnd h
 obtain rfl:([t7]:List Int)=t16:=Aa0 ht16
 refine Ap0 (ks:=[t7]) (enc:=(Value.int .u64)) (m:=1) hS rfl rfl ?_;intro r15 w hS
 obtain ⟨t17,ht17,h⟩:=bnd h
 obtain ⟨rfl,kt17⟩:=Gh2 ht17
 replace hS:=ro1 hS
 refine Bx6 hS kt17 ((Ent.sl mp1).now (fun _ h=>h) hS) (fun _=>rfl) rfl ?_;clear hS kt17;intro a16 c16 w hS
 obtain ⟨t18,ht18,h⟩:=bnd h
 refine Bd1 H hS (Ent.sl mp0) ht18 ?_;rintro a17 m17 c17 w hS
 refine ⟨_,_,_,rfl,?_⟩
 cases Aa0 h
 exact hK _ _ _ _ (hS.pick (A:=[_,_,_]) [0] rfl)
theorem Bt8 {q0 qj qm l0 q1 u0} (hS:Ho w0 w L) (qw:EU L l0 q0 qj qm) (h:Av8 l0 q1=some u0) (hK:∀ w1,Ho w0 w1 L→K (.int .u64 u0) w1):Aa1 P N.Ie6 #[.slice q0 qj qm,.int .i64 q1] w K:=by
 refine H.r02_digit q0 qj qm q1 w _ ?_
 unfold Di9
 unfold Av8 at h
 try dsimp only
 obtain ⟨t1,ht1,h⟩:=bnd h
 obtain rfl:=An6 ht1 (qw.now (fun _ h=>h) hS)
 refine Aa2 h ?_ ?_<;>intro hc h
 ·
  obtain ⟨t2,ht2,h⟩:=bnd h
  obtain ⟨q1x,qo,q1r⟩:=atE ht2
  refine Ac7 (qw.now (fun _ h=>h) hS) q1x qo q1r ?_;intro b2 hb2
  refine ⟨_,Ab4 (qw.now (fun _ h=>h) hS) hb2 q1x,?_⟩
  cases Aa0 h
  exact hK _ hS
 cases Aa0 h
 exact hK _ hS
theorem Be0 {q0 qj qm l0 q1 qo qu l1 u0} (hS:Ho w0 w L) (qw:EU L l0 q0 qj qm) (ve:EU L l1 q1 qo qu) (h:Ae2 l0 l1=some u0) (hK:∀ (a0:OA) (n0 c0:Nat) (w1:World),Ho w0 w1 ((sl a0 n0 c0 (List.map (Value.int .u64) u0) N.Il0)::L)→K (.slice a0 n0 c0) w1):Aa1 P N.Ia1 #[.slice q0 qj qm,.slice q1 qo qu] w K:=by
 refine H.r02_NatAdd q0 qj qm q1 qo qu w _ ?_
 unfold Co5
 unfold Ae2 at h
 try dsimp only
 obtain ⟨t1,ht1,h⟩:=bnd h
 refine Al6 H hS qw ht1 ?_;rintro a1 m1 c1 w hS
 refine ⟨_,_,_,rfl,?_⟩
 obtain ⟨t2,ht2,h⟩:=bnd h
 refine Al6 H hS (ve.mono tl1) ht2 ?_;rintro a2 m2 c2 w hS
 refine ⟨_,_,_,rfl,?_⟩
 obtain ⟨o6,h6,c6⟩:=bnd h
 refine Ab0 (fun s w=>∃ (a3:OA) (m4:Nat) (c5:Nat) (t3:List Int),t3=o6∧s=((a3,m4,c5),())∧Ho w0 w ((sl a3 m4 c5 (List.map (Value.int .u64) t3) N.Il0)::L)) (fun J6 hJ6=>?_) ?_
 ·
  have h:=h6
  clear h6
  replace hS:=hS.none (α:=Int) (enc:=(Value.int .u64)) (t:=N.Il0)
  refine Ab6 (fun s w t=>∃ (t4:Int) (t5:Int) (a7:OA) (m8:Nat) (c9:Nat) (t6:List Int),(t4,t5,t6)=t∧s=((a7,m8,c9),t4,t5,())∧Ho w0 w ((sl a2 m2 c2 (List.map (Value.int .u64) t2) N.Il0)::(sl a1 m1 c1 (List.map (Value.int .u64) t1) N.Il0)::(sl a7 m8 c9 (List.map (Value.int .u64) t6) N.Il0)::L)) ?_ h ⟨_,_,_,_,_,_,rfl,rfl,(hS.pick (A:=[_,_,_]) [1,1,0] rfl)⟩
  clear h hS
  rintro s w t X q ⟨t4,t5,a7,m8,c9,t6,rfl,rfl,hS⟩ h hX hO
  unfold Aj0 at h
  try dsimp only
  obtain ⟨o10,h10,c10⟩:=bnd h
  refine Ab0 (fun s w=>∃ (t7:Bool),t7=o10∧s=(t7,())∧Ho w0 w ((sl a2 m2 c2 (List.map (Value.int .u64) t2) N.Il0)::(sl a1 m1 c1 (List.map (Value.int .u64) t1) N.Il0)::(sl a7 m8 c9 (List.map (Value.int .u64) t6) N.Il0)::L)) (fun J10 hJ10=>?_) ?_
  ·
   have h:=h10
   clear h10
   obtain ⟨t8,ht8,h⟩:=bnd h
   obtain rfl:=An6 ht8 ((Ent.sl mp1).now (fun _ h=>h) hS)
   refine Aa2 h ?_ ?_<;>intro hc h
   ·
    obtain ⟨t9,ht9,h⟩:=bnd h
    obtain rfl:=An6 ht9 ((Ent.sl mp0).now (fun _ h=>h) hS)
    refine Aa2 h ?_ ?_<;>intro hc h
    ·
     exact hJ10 _ _ ⟨_,Aa0 h,rfl,hS⟩
    exact hJ10 _ _ ⟨_,Aa0 h,rfl,hS⟩
   exact hJ10 _ _ ⟨_,Aa0 h,rfl,hS⟩
  clear h10 hS
  rintro s w ⟨t7,rfl,rfl,hS⟩
  have h:=c10
  clear c10
  try dsimp only
  refine Aa2 h ?_ ?_<;>intro hc h
  ·
   obtain ⟨t10,ht10,h⟩:=bnd h
   refine Bt8 H hS (Ent.sl mp1) ht10 ?_;rintro w hS
   refine ⟨_,rfl,?_⟩
   obtain ⟨t11,ht11,h⟩:=bnd h
   refine Bt8 H hS (Ent.sl mp0) ht11 ?_;rintro w hS
   refine ⟨_,rfl,?_⟩
   refine ⟨by decide,?_⟩
   obtain ⟨t12,ht12,h⟩:=bnd h
   obtain rfl:([((u64.wrap ((u64.wrap (t10+t11))+t4)).tmod 4294967296)]:List Int)=t12:=Aa0 ht12
   refine Ap0 (ks:=[((u64.wrap ((u64.wrap (t10+t11))+t4)).tmod 4294967296)]) (enc:=(Value.int .u64)) (m:=1) hS rfl rfl ?_;intro r11 w hS
   obtain ⟨t13,ht13,h⟩:=bnd h
   obtain ⟨rfl,kt13⟩:=Gh2 ht13
   replace hS:=ro3 hS
   refine Bx6 hS kt13 ((Ent.sl mp1).now (fun _ h=>h) hS) (fun _=>rfl) rfl ?_;clear hS kt13;intro a12 c12 w hS
   refine ⟨by decide,?_⟩
   obtain rfl:=Aa0 h
   exact hX _ rfl _ _ ⟨_,_,_,_,_,_,rfl,rfl,(hS.pick (A:=[_,_,_,_]) [2,2,0] rfl)⟩
  obtain rfl:=Aa0 h
  have h:=congrArg some (hO _ rfl)
  obtain rfl:=Aa0 h
  exact hJ6 _ _ ⟨_,_,_,_,rfl,rfl,(hS.pick (A:=[_,_,_]) [2] rfl)⟩
 clear h6 hS
 rintro s w ⟨a3,m4,c5,t3,rfl,rfl,hS⟩
 have h:=c6
 clear c6
 try dsimp only
 obtain ⟨t14,ht14,h⟩:=bnd h
 refine Bd1 H hS (Ent.sl mp0) ht14 ?_;rintro a13 m13 c13 w hS
 refine ⟨_,_,_,rfl,?_⟩
 cases Aa0 h
 exact hK _ _ _ _ (hS.pick (A:=[_,_]) [0] rfl)
theorem Ch4 {q0 qj qm l0 q1 qo qu l1 u0} (hS:Ho w0 w L) (qw:EU L l0 q0 qj qm) (ve:EU L l1 q1 qo qu) (h:Ar2 l0 l1=some u0) (hK:∀ w1,Ho w0 w1 L→K (.int .i64 u0) w1):Aa1 P N.Hz6 #[.slice q0 qj qm,.slice q1 qo qu] w K:=by
 refine H.r02_NatCmp q0 qj qm q1 qo qu w _ ?_
 unfold Ct5
 unfold Ar2 at h
 try dsimp only
 obtain ⟨t1,ht1,h⟩:=bnd h
 refine Au2 H hS qw ht1 ?_;rintro a1 m1 c1 w hS
 refine ⟨_,_,_,rfl,?_⟩
 obtain ⟨t2,ht2,h⟩:=bnd h
 refine Au2 H hS (ve.mono tl1) ht2 ?_;rintro a2 m2 c2 w hS
 refine ⟨_,_,_,rfl,?_⟩
 obtain ⟨t3,ht3,h⟩:=bnd h
 obtain rfl:=An6 ht3 ((Ent.sl mp1).now (fun _ h=>h) hS)
 obtain ⟨t4,ht4,h⟩:=bnd h
 obtain rfl:=An6 ht4 ((Ent.sl mp0).now (fun _ h=>h) hS)
 refine Aa2 h ?_ ?_<;>intro hc h
 ·
  obtain ⟨t5,ht5,h⟩:=bnd h
  obtain rfl:=An6 ht5 ((Ent.sl mp1).now (fun _ h=>h) hS)
  obtain ⟨t6,ht6,h⟩:=bnd h
  obtain rfl:=An6 ht6 ((Ent.sl mp0).now (fun _ h=>h) hS)
  refine Aa2 h ?_ ?_<;>intro hc h
  ·
   cases Aa0 h
   exact hK _ (hS.pick (A:=[_,_]) [] rfl)
  cases Aa0 h
  exact hK _ (hS.pick (A:=[_,_]) [] rfl)
 obtain ⟨t7,ht7,h⟩:=bnd h
 obtain rfl:=An6 ht7 ((Ent.sl mp1).now (fun _ h=>h) hS)
 obtain ⟨o3,h3,c3⟩:=bnd h
 refine Ab0 (fun s w =>  .inl ()=o3∧s=(())∧Ho w0 w L) (fun J3 hJ3=>?_) ?_
 ·
  have h:=h3
  clear h3
  refine Ab6 (fun s w t=>∃ (t8:Int),t8=t∧s=(t8,())∧Ho w0 w ((sl a2 m2 c2 (List.map (Value.int .u64) t2) N.Il0)::(sl a1 m1 c1 (List.map (Value.int .u64) t1) N.Il0)::L)) ?_ h ⟨_,rfl,rfl,hS⟩
  clear h hS
  rintro s w t X q ⟨t8,rfl,rfl,hS⟩ h hX hO
  unfold Ai7 at h
  try dsimp only
  refine Aa2 h ?_ ?_<;>intro hc h
  ·
   obtain ⟨t9,ht9,h⟩:=bnd h
   obtain ⟨q4x,yv,q4r⟩:=atE ht9
   refine Ac7 ((Ent.sl mp1).now (fun _ h=>h) hS) q4x yv q4r ?_;intro b5 hb5
   refine ⟨_,Ab4 ((Ent.sl mp1).now (fun _ h=>h) hS) hb5 q4x,?_⟩
   obtain ⟨t10,ht10,h⟩:=bnd h
   obtain ⟨q6x,yh,q6r⟩:=atE ht10
   refine Ac7 ((Ent.sl mp0).now (fun _ h=>h) hS) q6x yh q6r ?_;intro b7 hb7
   refine ⟨_,Ab4 ((Ent.sl mp0).now (fun _ h=>h) hS) hb7 q6x,?_⟩
   refine Aa5 hS ?_;intro w hS
   refine Aa2 h ?_ ?_<;>intro hc h
   ·
    obtain rfl:=Aa0 h
    have h:=congrArg some (hO _ rfl)
    obtain rfl:=Aa0 h
    have h:=c3
    cases Aa0 h
    exact hK _ (hS.pick (A:=[_,_]) [] rfl)
   obtain ⟨t11,ht11,h⟩:=bnd h
   obtain ⟨q8x,yj,q8r⟩:=atE ht11
   refine Ac7 ((Ent.sl mp1).now (fun _ h=>h) hS) q8x yj q8r ?_;intro b9 hb9
   refine ⟨_,Ab4 ((Ent.sl mp1).now (fun _ h=>h) hS) hb9 q8x,?_⟩
   obtain ⟨t12,ht12,h⟩:=bnd h
   obtain ⟨q10x,yk,q10r⟩:=atE ht12
   refine Ac7 ((Ent.sl mp0).now (fun _ h=>h) hS) q10x yk q10r ?_;intro b11 hb11
   refine ⟨_,Ab4 ((Ent.sl mp0).now (fun _ h=>h) hS) hb11 q10x,?_⟩
   refine Aa5 hS ?_;intro w hS
   refine Aa2 h ?_ ?_<;>intro hc h
   ·
    obtain rfl:=Aa0 h
    have h:=congrArg some (hO _ rfl)
    obtain rfl:=Aa0 h
    have h:=c3
    cases Aa0 h
    exact hK _ (hS.pick (A:=[_,_]) [] rfl)
   obtain rfl:=Aa0 h
   exact hX _ rfl _ _ ⟨_,rfl,rfl,hS⟩
  obtain rfl:=Aa0 h
  have h:=congrArg some (hO _ rfl)
  obtain rfl:=Aa0 h
  exact hJ3 _ _ ⟨rfl,rfl,(hS.pick (A:=[_,_]) [] rfl)⟩
 clear h3 hS
 rintro s w ⟨rfl,rfl,hS⟩
 have h:=c3
 clear c3
 try dsimp only
 cases Aa0 h
 exact hK _ hS
theorem Be3 {q0 qj qm l0 q1 qo qu l1 u0} (hS:Ho w0 w L) (qw:EU L l0 q0 qj qm) (ve:EU L l1 q1 qo qu) (h:Ai3 l0 l1=some u0) (hK:∀ (a0:OA) (n0 c0:Nat) (w1:World),Ho w0 w1 ((sl a0 n0 c0 (List.map (Value.int .u64) u0) N.Il0)::L)→K (.slice a0 n0 c0) w1):Aa1 P N.Ia7 #[.slice q0 qj qm,.slice q1 qo qu] w K:=by
 refine H.r02_NatSub q0 qj qm q1 qo qu w _ ?_
 unfold Cu4
 unfold Ai3 at h
 try dsimp only
 obtain ⟨t1,ht1,h⟩:=bnd h
 refine Al6 H hS qw ht1 ?_;rintro a1 m1 c1 w hS
 refine ⟨_,_,_,rfl,?_⟩
 obtain ⟨t2,ht2,h⟩:=bnd h
 refine Al6 H hS (ve.mono tl1) ht2 ?_;rintro a2 m2 c2 w hS
 refine ⟨_,_,_,rfl,?_⟩
 obtain ⟨o6,h6,c6⟩:=bnd h
 refine Ab0 (fun s w=>∃ (a3:OA) (m4:Nat) (c5:Nat) (t3:List Int),t3=o6∧s=((a3,m4,c5),())∧Ho w0 w ((sl a3 m4 c5 (List.map (Value.int .u64) t3) N.Il0)::L)) (fun J6 hJ6=>?_) ?_
 ·
  have h:=h6
  clear h6
  replace hS:=hS.none (α:=Int) (enc:=(Value.int .u64)) (t:=N.Il0)
  refine Ab6 (fun s w t=>∃ (t4:Int) (t5:Int) (a7:OA) (m8:Nat) (c9:Nat) (t6:List Int),(t4,t5,t6)=t∧s=((a7,m8,c9),t4,t5,())∧Ho w0 w ((sl a2 m2 c2 (List.map (Value.int .u64) t2) N.Il0)::(sl a1 m1 c1 (List.map (Value.int .u64) t1) N.Il0)::(sl a7 m8 c9 (List.map (Value.int .u64) t6) N.Il0)::L)) ?_ h ⟨_,_,_,_,_,_,rfl,rfl,(hS.pick (A:=[_,_,_]) [1,1,0] rfl)⟩
  clear h hS
  rintro s w t X q ⟨t4,t5,a7,m8,c9,t6,rfl,rfl,hS⟩ h hX hO
  unfold Am6 at h
  try dsimp only
  obtain ⟨t7,ht7,h⟩:=bnd h
  obtain rfl:=An6 ht7 ((Ent.sl mp1).now (fun _ h=>h) hS)
  refine Aa2 h ?_ ?_<;>intro hc h
  ·
   obtain ⟨t8,ht8,h⟩:=bnd h
   obtain ⟨q10x,yk,q10r⟩:=atE ht8
   refine Ac7 ((Ent.sl mp1).now (fun _ h=>h) hS) q10x yk q10r ?_;intro b11 hb11
   refine ⟨_,Ab4 ((Ent.sl mp1).now (fun _ h=>h) hS) hb11 q10x,?_⟩
   refine Aa5 hS ?_;intro w hS
   obtain ⟨t9,ht9,h⟩:=bnd h
   refine Bt8 H hS (Ent.sl mp0) ht9 ?_;rintro w hS
   refine ⟨_,rfl,?_⟩
   refine ⟨Ab4 ((Ent.sl mp1).now (fun _ h=>h) hS) hb11 q10x,?_⟩
   refine Aa5 hS ?_;intro w hS
   refine ⟨by decide,?_⟩
   obtain ⟨t10,ht10,h⟩:=bnd h
   obtain rfl:([((u64.wrap ((u64.wrap ((u64.wrap (4294967296+t8))-t9))-t4)).tmod 4294967296)]:List Int)=t10:=Aa0 ht10
   refine Ap0 (ks:=[((u64.wrap ((u64.wrap ((u64.wrap (4294967296+t8))-t9))-t4)).tmod 4294967296)]) (enc:=(Value.int .u64)) (m:=1) hS rfl rfl ?_;intro r12 w hS
   obtain ⟨t11,ht11,h⟩:=bnd h
   obtain ⟨rfl,kt11⟩:=Gh2 ht11
   replace hS:=ro3 hS
   refine Bx6 hS kt11 ((Ent.sl mp1).now (fun _ h=>h) hS) (fun _=>rfl) rfl ?_;clear hS kt11;intro a13 c13 w hS
   refine ⟨by decide,?_⟩
   obtain rfl:=Aa0 h
   exact hX _ rfl _ _ ⟨_,_,_,_,_,_,rfl,rfl,(hS.pick (A:=[_,_,_,_]) [2,2,0] rfl)⟩
  obtain rfl:=Aa0 h
  have h:=congrArg some (hO _ rfl)
  obtain rfl:=Aa0 h
  exact hJ6 _ _ ⟨_,_,_,_,rfl,rfl,(hS.pick (A:=[_,_,_]) [2] rfl)⟩
 clear h6 hS
 rintro s w ⟨a3,m4,c5,t3,rfl,rfl,hS⟩
 have h:=c6
 clear c6
 try dsimp only
 obtain ⟨t12,ht12,h⟩:=bnd h
 refine Bd1 H hS (Ent.sl mp0) ht12 ?_;rintro a14 m14 c14 w hS
 refine ⟨_,_,_,rfl,?_⟩
 cases Aa0 h
 exact hK _ _ _ _ (hS.pick (A:=[_,_]) [0] rfl)
theorem Ev4 {qb qc qe qg l0_1 qd ql qk qh qi l1_1 qq u0 u1 u2} (hS:Ho w0 w L) (qn:EU L l0_1 qc qe qg) (qv:EU L l1_1 qk qh qi) (hx:Cd2 qb l0_1 qd ql l1_1 qq=some (u0,u1,u2)) (hK:∀ (it1:It) (a1:OA) (n1 c1:Nat) (w1:World),(∀ L1,it1∈L1→Ent L1 (rdA (List.map (Value.int .u64) l0_1) qc qe qg)→Ent L1 (rdA (List.map (Value.int .u64) l1_1) qk qh qi)→Ent L1 (rdA (List.map (Value.int .u64) u1) a1 n1 c1))→Ho w0 w1 (it1::L)→K (.agg #[.bool u0,.slice a1 n1 c1,.int .i64 u2]) w1):Aa1 P N.Ih9 #[.agg #[.bool qb,.slice qc qe qg,.int .i64 qd],.agg #[.bool ql,.slice qk qh qi,.int .i64 qq]] w K:=by
 unfold Cd2 at hx
 cases hx
theorem En1 {qb qc qe qg l0_1 qd ql qk qh qi l1_1 qq u0 u1 u2} (hS:Ho w0 w L) (qn:EU L l0_1 qc qe qg) (qv:EU L l1_1 qk qh qi) (h:Bo4 qb l0_1 qd ql l1_1 qq=some (u0,u1,u2)) (hK:∀ (it1:It) (a1:OA) (n1 c1:Nat) (w1:World),(∀ L1,it1∈L1→Ent L1 (rdA (List.map (Value.int .u64) l0_1) qc qe qg)→Ent L1 (rdA (List.map (Value.int .u64) l1_1) qk qh qi)→Ent L1 (rdA (List.map (Value.int .u64) u1) a1 n1 c1))→Ho w0 w1 (it1::L)→K (.agg #[.bool u0,.slice a1 n1 c1,.int .i64 u2]) w1):Aa1 P N.Ih9 #[.agg #[.bool qb,.slice qc qe qg,.int .i64 qd],.agg #[.bool ql,.slice qk qh qi,.int .i64 qq]] w K:=by
 refine H.r02_Plus qb qc qe qg qd ql qk qh qi qq w _ ?_
 unfold Co0
 unfold Bo4 at h
 try dsimp only
 refine Aa9 hS ?_;intro r1 w hS
 refine Aa9 hS ?_;intro r2 w hS
 refine Aa9 hS ?_;intro r3 w hS
 refine ⟨_,hS.cel mp2 rfl,_,_,_,hS.cel mp2 rfl,_,hS.cel mp2 rfl,?_⟩
 obtain ⟨t1,ht1,h⟩:=bnd h
 refine Ar3 H hS (qn.mono tl3) ht1 ?_;rintro w hS
 refine ⟨_,rfl,?_⟩
 refine Aa2 h ?_ ?_<;>intro hc h
 ·
  refine ⟨_,hS.cel mp1 rfl,_,_,_,hS.cel mp1 rfl,_,hS.cel mp1 rfl,?_⟩
  refine Aa4 hS rfl rfl ?_;intro w hS
  refine Aa4 hS rfl rfl ?_;intro w hS
  refine Aa4 hS rfl rfl ?_;intro w hS
  refine ⟨_,hS.cel mp0 rfl,_,_,_,hS.cel mp0 rfl,_,hS.cel mp0 rfl,?_⟩
  replace hS:=hS.voidItem
  cases Aa0 h
  exact hK _ _ _ _ _ (fun _ hm hdq0_1 hdq1_1=>hdq1_1) (hS.pick (A:=[_,_,_,_]) [0] rfl)
 refine ⟨_,hS.cel mp1 rfl,_,_,_,hS.cel mp1 rfl,_,hS.cel mp1 rfl,?_⟩
 obtain ⟨t2,ht2,h⟩:=bnd h
 refine Ar3 H hS (qv.mono tl3) ht2 ?_;rintro w hS
 refine ⟨_,rfl,?_⟩
 refine Aa2 h ?_ ?_<;>intro hc h
 ·
  refine ⟨_,hS.cel mp2 rfl,_,_,_,hS.cel mp2 rfl,_,hS.cel mp2 rfl,?_⟩
  refine Aa4 hS rfl rfl ?_;intro w hS
  refine Aa4 hS rfl rfl ?_;intro w hS
  refine Aa4 hS rfl rfl ?_;intro w hS
  refine ⟨_,hS.cel mp0 rfl,_,_,_,hS.cel mp0 rfl,_,hS.cel mp0 rfl,?_⟩
  replace hS:=hS.voidItem
  cases Aa0 h
  exact hK _ _ _ _ _ (fun _ hm hdq0_1 hdq1_1=>hdq0_1) (hS.pick (A:=[_,_,_,_]) [0] rfl)
 refine ⟨_,hS.cel mp2 rfl,_,hS.cel mp1 rfl,?_⟩
 refine Aa2 h ?_ ?_<;>intro hc h
 ·
  refine ⟨_,hS.cel mp1 rfl,_,_,_,hS.cel mp1 rfl,_,hS.cel mp1 rfl,_,hS.cel mp2 rfl,_,_,_,hS.cel mp2 rfl,_,hS.cel mp2 rfl,?_⟩
  obtain ⟨⟨t3,t4,t5⟩,ho3,h⟩:=bnd h
  refine Ev4 H hS (qv.mono tl3) (qn.mono tl3) ho3 ?_;clear hS ho3;rintro it4 a4 m4 c4 w e4 hS
  refine ⟨_,_,_,_,_,rfl,?_⟩
  replace hS:=ro1 hS
  refine Aa4 hS rfl rfl ?_;intro w hS
  refine Aa4 hS rfl rfl ?_;intro w hS
  refine Aa4 hS rfl rfl ?_;intro w hS
  refine ⟨_,hS.cel mp0 rfl,_,_,_,hS.cel mp0 rfl,_,hS.cel mp0 rfl,?_⟩
  cases Aa0 h
  exact hK _ _ _ _ _ (fun _ hm hdq0_1 hdq1_1=>(e4 _ hm hdq1_1 hdq0_1)) (hS.pick (A:=[_,_,_,_]) [1] rfl)
 refine ⟨_,_,_,hS.cel mp2 rfl,_,_,_,hS.cel mp1 rfl,_,hS.cel mp1 rfl,_,hS.cel mp2 rfl,?_⟩
 obtain ⟨t6,ht6,h⟩:=bnd h
 refine Bt1 H hS (qv.mono tl3) ht6 ?_;rintro a5 m5 c5 w hS
 refine ⟨_,_,_,rfl,?_⟩
 refine ⟨_,hS.cel mp3 rfl,_,hS.cel mp2 rfl,?_⟩
 refine Aa2 h ?_ ?_<;>intro hc h
 ·
  refine ⟨_,hS.cel mp3 rfl,_,hS.cel mp3 rfl,?_⟩
  refine Aa5 hS ?_;intro w hS
  obtain ⟨t7,ht7,h⟩:=bnd h
  refine Be0 H hS (qn.mono tl4) (Ent.sl mp0) ht7 ?_;rintro a6 m6 c6 w hS
  refine ⟨_,_,_,rfl,?_⟩
  refine ⟨(hS.cel mp4 rfl),?_⟩
  refine ⟨(hS.cel mp4 rfl),?_⟩
  refine Aa5 hS ?_;intro w hS
  replace hS:=ro2 hS
  refine Aa4 hS rfl rfl ?_;intro w hS
  refine Aa4 hS rfl rfl ?_;intro w hS
  refine Aa4 hS rfl rfl ?_;intro w hS
  refine Aa5 hS ?_;intro w hS
  refine ⟨_,hS.cel mp0 rfl,_,_,_,hS.cel mp0 rfl,_,hS.cel mp0 rfl,?_⟩
  cases Aa0 h
  exact hK _ _ _ _ _ (fun _ hm hdq0_1 hdq1_1=>(Ent.sl hm)) (hS.pick (A:=[_,_,_,_,_]) [1] rfl)
 obtain ⟨t8,ht8,h⟩:=bnd h
 refine Ch4 H hS (qn.mono tl4) (Ent.sl mp0) ht8 ?_;rintro w hS
 refine ⟨_,rfl,?_⟩
 refine Aa2 h ?_ ?_<;>intro hc h
 ·
  refine ⟨_,hS.cel mp3 rfl,_,hS.cel mp3 rfl,?_⟩
  refine Aa5 hS ?_;intro w hS
  obtain ⟨t9,ht9,h⟩:=bnd h
  refine Be3 H hS (qn.mono tl4) (Ent.sl mp0) ht9 ?_;rintro a7 m7 c7 w hS
  refine ⟨_,_,_,rfl,?_⟩
  refine ⟨(hS.cel mp4 rfl),?_⟩
  refine ⟨(hS.cel mp4 rfl),?_⟩
  refine Aa5 hS ?_;intro w hS
  replace hS:=ro2 hS
  refine Aa4 hS rfl rfl ?_;intro w hS
  refine Aa4 hS rfl rfl ?_;intro w hS
  refine Aa4 hS rfl rfl ?_;intro w hS
  refine Aa5 hS ?_;intro w hS
  refine ⟨_,hS.cel mp0 rfl,_,_,_,hS.cel mp0 rfl,_,hS.cel mp0 rfl,?_⟩
  cases Aa0 h
  exact hK _ _ _ _ _ (fun _ hm hdq0_1 hdq1_1=>(Ent.sl hm)) (hS.pick (A:=[_,_,_,_,_]) [1] rfl)
 refine ⟨_,hS.cel mp2 rfl,_,hS.cel mp3 rfl,?_⟩
 refine Aa5 hS ?_;intro w hS
 obtain ⟨t10,ht10,h⟩:=bnd h
 refine Be3 H hS (Ent.sl mp0) (qn.mono tl4) ht10 ?_;rintro a8 m8 c8 w hS
 refine ⟨_,_,_,rfl,?_⟩
 refine ⟨(hS.cel mp4 rfl),?_⟩
 refine ⟨(hS.cel mp3 rfl),?_⟩
 refine Aa5 hS ?_;intro w hS
 replace hS:=ro2 hS
 refine Aa4 hS rfl rfl ?_;intro w hS
 refine Aa4 hS rfl rfl ?_;intro w hS
 refine Aa4 hS rfl rfl ?_;intro w hS
 refine Aa5 hS ?_;intro w hS
 refine ⟨_,hS.cel mp0 rfl,_,_,_,hS.cel mp0 rfl,_,hS.cel mp0 rfl,?_⟩
 cases Aa0 h
 exact hK _ _ _ _ _ (fun _ hm hdq0_1 hdq1_1=>(Ent.sl hm)) (hS.pick (A:=[_,_,_,_,_]) [1] rfl)
theorem Fa0 {qb qc qe qg l0_1 qd ql qk qh qi l1_1 qq u0 u1 u2} (hS:Ho w0 w L) (qn:EU L l0_1 qc qe qg) (qv:EU L l1_1 qk qh qi) (h:Bk7 qb l0_1 qd ql l1_1 qq=some (u0,u1,u2)) (hK:∀ (it1:It) (a1:OA) (n1 c1:Nat) (w1:World),(∀ L1,it1∈L1→Ent L1 (rdA (List.map (Value.int .u64) l0_1) qc qe qg)→Ent L1 (rdA (List.map (Value.int .u64) l1_1) qk qh qi)→Ent L1 (rdA (List.map (Value.int .u64) u1) a1 n1 c1))→Ho w0 w1 (it1::L)→K (.agg #[.bool u0,.slice a1 n1 c1,.int .i64 u2]) w1):Aa1 P N.Ih9 #[.agg #[.bool qb,.slice qc qe qg,.int .i64 qd],.agg #[.bool ql,.slice qk qh qi,.int .i64 qq]] w K:=by
 refine H.r02_Plus qb qc qe qg qd ql qk qh qi qq w _ ?_
 unfold Co0
 unfold Bk7 at h
 try dsimp only
 refine Aa9 hS ?_;intro r1 w hS
 refine Aa9 hS ?_;intro r2 w hS
 refine Aa9 hS ?_;intro r3 w hS
 refine ⟨_,hS.cel mp2 rfl,_,_,_,hS.cel mp2 rfl,_,hS.cel mp2 rfl,?_⟩
 obtain ⟨t1,ht1,h⟩:=bnd h
 refine Ar3 H hS (qn.mono tl3) ht1 ?_;rintro w hS
 refine ⟨_,rfl,?_⟩
 refine Aa2 h ?_ ?_<;>intro hc h
 ·
  refine ⟨_,hS.cel mp1 rfl,_,_,_,hS.cel mp1 rfl,_,hS.cel mp1 rfl,?_⟩
  refine Aa4 hS rfl rfl ?_;intro w hS
  refine Aa4 hS rfl rfl ?_;intro w hS
  refine Aa4 hS rfl rfl ?_;intro w hS
  refine ⟨_,hS.cel mp0 rfl,_,_,_,hS.cel mp0 rfl,_,hS.cel mp0 rfl,?_⟩
  replace hS:=hS.voidItem
  cases Aa0 h
  exact hK _ _ _ _ _ (fun _ hm hdq0_1 hdq1_1=>hdq1_1) (hS.pick (A:=[_,_,_,_]) [0] rfl)
 refine ⟨_,hS.cel mp1 rfl,_,_,_,hS.cel mp1 rfl,_,hS.cel mp1 rfl,?_⟩
 obtain ⟨t2,ht2,h⟩:=bnd h
 refine Ar3 H hS (qv.mono tl3) ht2 ?_;rintro w hS
 refine ⟨_,rfl,?_⟩
 refine Aa2 h ?_ ?_<;>intro hc h
 ·
  refine ⟨_,hS.cel mp2 rfl,_,_,_,hS.cel mp2 rfl,_,hS.cel mp2 rfl,?_⟩
  refine Aa4 hS rfl rfl ?_;intro w hS
  refine Aa4 hS rfl rfl ?_;intro w hS
  refine Aa4 hS rfl rfl ?_;intro w hS
  refine ⟨_,hS.cel mp0 rfl,_,_,_,hS.cel mp0 rfl,_,hS.cel mp0 rfl,?_⟩
  replace hS:=hS.voidItem
  cases Aa0 h
  exact hK _ _ _ _ _ (fun _ hm hdq0_1 hdq1_1=>hdq0_1) (hS.pick (A:=[_,_,_,_]) [0] rfl)
 refine ⟨_,hS.cel mp2 rfl,_,hS.cel mp1 rfl,?_⟩
 refine Aa2 h ?_ ?_<;>intro hc h
 ·
  refine ⟨_,hS.cel mp1 rfl,_,_,_,hS.cel mp1 rfl,_,hS.cel mp1 rfl,_,hS.cel mp2 rfl,_,_,_,hS.cel mp2 rfl,_,hS.cel mp2 rfl,?_⟩
  obtain ⟨⟨t3,t4,t5⟩,ho3,h⟩:=bnd h
  refine En1 H hS (qv.mono tl3) (qn.mono tl3) ho3 ?_;clear hS ho3;rintro it4 a4 m4 c4 w e4 hS
  refine ⟨_,_,_,_,_,rfl,?_⟩
  replace hS:=ro1 hS
  refine Aa4 hS rfl rfl ?_;intro w hS
  refine Aa4 hS rfl rfl ?_;intro w hS
  refine Aa4 hS rfl rfl ?_;intro w hS
  refine ⟨_,hS.cel mp0 rfl,_,_,_,hS.cel mp0 rfl,_,hS.cel mp0 rfl,?_⟩
  cases Aa0 h
  exact hK _ _ _ _ _ (fun _ hm hdq0_1 hdq1_1=>(e4 _ hm hdq1_1 hdq0_1)) (hS.pick (A:=[_,_,_,_]) [1] rfl)
 refine ⟨_,_,_,hS.cel mp2 rfl,_,_,_,hS.cel mp1 rfl,_,hS.cel mp1 rfl,_,hS.cel mp2 rfl,?_⟩
 obtain ⟨t6,ht6,h⟩:=bnd h
 refine Bt1 H hS (qv.mono tl3) ht6 ?_;rintro a5 m5 c5 w hS
 refine ⟨_,_,_,rfl,?_⟩
 refine ⟨_,hS.cel mp3 rfl,_,hS.cel mp2 rfl,?_⟩
 refine Aa2 h ?_ ?_<;>intro hc h
 ·
  refine ⟨_,hS.cel mp3 rfl,_,hS.cel mp3 rfl,?_⟩
  refine Aa5 hS ?_;intro w hS
  obtain ⟨t7,ht7,h⟩:=bnd h
  refine Be0 H hS (qn.mono tl4) (Ent.sl mp0) ht7 ?_;rintro a6 m6 c6 w hS
  refine ⟨_,_,_,rfl,?_⟩
  refine ⟨(hS.cel mp4 rfl),?_⟩
  refine ⟨(hS.cel mp4 rfl),?_⟩
  refine Aa5 hS ?_;intro w hS
  replace hS:=ro2 hS
  refine Aa4 hS rfl rfl ?_;intro w hS
  refine Aa4 hS rfl rfl ?_;intro w hS
  refine Aa4 hS rfl rfl ?_;intro w hS
  refine Aa5 hS ?_;intro w hS
  refine ⟨_,hS.cel mp0 rfl,_,_,_,hS.cel mp0 rfl,_,hS.cel mp0 rfl,?_⟩
  cases Aa0 h
  exact hK _ _ _ _ _ (fun _ hm hdq0_1 hdq1_1=>(Ent.sl hm)) (hS.pick (A:=[_,_,_,_,_]) [1] rfl)
 obtain ⟨t8,ht8,h⟩:=bnd h
 refine Ch4 H hS (qn.mono tl4) (Ent.sl mp0) ht8 ?_;rintro w hS
 refine ⟨_,rfl,?_⟩
 refine Aa2 h ?_ ?_<;>intro hc h
 ·
  refine ⟨_,hS.cel mp3 rfl,_,hS.cel mp3 rfl,?_⟩
  refine Aa5 hS ?_;intro w hS
  obtain ⟨t9,ht9,h⟩:=bnd h
  refine Be3 H hS (qn.mono tl4) (Ent.sl mp0) ht9 ?_;rintro a7 m7 c7 w hS
  refine ⟨_,_,_,rfl,?_⟩
  refine ⟨(hS.cel mp4 rfl),?_⟩
  refine ⟨(hS.cel mp4 rfl),?_⟩
  refine Aa5 hS ?_;intro w hS
  replace hS:=ro2 hS
  refine Aa4 hS rfl rfl ?_;intro w hS
  refine Aa4 hS rfl rfl ?_;intro w hS
  refine Aa4 hS rfl rfl ?_;intro w hS
  refine Aa5 hS ?_;intro w hS
  refine ⟨_,hS.cel mp0 rfl,_,_,_,hS.cel mp0 rfl,_,hS.cel mp0 rfl,?_⟩
  cases Aa0 h
  exact hK _ _ _ _ _ (fun _ hm hdq0_1 hdq1_1=>(Ent.sl hm)) (hS.pick (A:=[_,_,_,_,_]) [1] rfl)
 refine ⟨_,hS.cel mp2 rfl,_,hS.cel mp3 rfl,?_⟩
 refine Aa5 hS ?_;intro w hS
 obtain ⟨t10,ht10,h⟩:=bnd h
 refine Be3 H hS (Ent.sl mp0) (qn.mono tl4) ht10 ?_;rintro a8 m8 c8 w hS
 refine ⟨_,_,_,rfl,?_⟩
 refine ⟨(hS.cel mp4 rfl),?_⟩
 refine ⟨(hS.cel mp3 rfl),?_⟩
 refine Aa5 hS ?_;intro w hS
 replace hS:=ro2 hS
 refine Aa4 hS rfl rfl ?_;intro w hS
 refine Aa4 hS rfl rfl ?_;intro w hS
 refine Aa4 hS rfl rfl ?_;intro w hS
 refine Aa5 hS ?_;intro w hS
 refine ⟨_,hS.cel mp0 rfl,_,_,_,hS.cel mp0 rfl,_,hS.cel mp0 rfl,?_⟩
 cases Aa0 h
 exact hK _ _ _ _ _ (fun _ hm hdq0_1 hdq1_1=>(Ent.sl hm)) (hS.pick (A:=[_,_,_,_,_]) [1] rfl)
theorem Dn0 {qb qc qe qg l0_1 qd u0} (hS:Ho w0 w L) (qn:EU L l0_1 qc qe qg) (h:Ax9 qb l0_1 qd=some u0) (hK:∀ w1,Ho w0 w1 L→K (.int .i64 u0) w1):Aa1 P N.Hx4 #[.agg #[.bool qb,.slice qc qe qg,.int .i64 qd]] w K:=by
 refine H.r02_Num_top qb qc qe qg qd w _ ?_
 unfold Cg3
 unfold Ax9 at h
 try dsimp only
 refine Aa9 hS ?_;intro r1 w hS
 refine ⟨_,hS.cel mp0 rfl,_,_,_,hS.cel mp0 rfl,?_⟩
 refine Aa5 hS ?_;intro w hS
 obtain ⟨t1,ht1,h⟩:=bnd h
 refine Bk3 H hS (qn.mono tl1) ht1 ?_;rintro w hS
 refine ⟨_,rfl,?_⟩
 refine ⟨(hS.cel mp0 rfl),?_⟩
 refine Aa5 hS ?_;intro w hS
 cases Aa0 h
 exact hK _ (hS.pick (A:=[_]) [] rfl)
theorem Em9 {q0 qj qm l0 q1 u0 u1} (hS:Ho w0 w L) (qw:EU L l0 q0 qj qm) (h:Bf8 l0 q1=some (u0,u1)) (hK:∀ (a0:OA) (n0 c0:Nat) (w1:World),Ho w0 w1 ((sl a0 n0 c0 (List.map (Value.int .u64) u0) N.Il0)::L)→K (.tuple #[.slice a0 n0 c0,.int .u64 u1]) w1):Aa1 P N.Id0 #[.slice q0 qj qm,.int .u64 q1] w K:=by
 refine H.r02_short q0 qj qm q1 w _ ?_
 unfold Db5
 unfold Bf8 at h
 try dsimp only
 obtain ⟨t1,ht1,h⟩:=bnd h
 obtain rfl:=An6 ht1 (qw.now (fun _ h=>h) hS)
 obtain ⟨t2,ht2,h⟩:=bnd h
 obtain ⟨rfl,kt2⟩:=mkE ht2
 refine Ft4 (enc:=(Value.int .u64)) hS kt2 rfl ?_;clear hS kt2;intro r1 w hS
 obtain ⟨t3,ht3,h⟩:=bnd h
 obtain rfl:=An6 ht3 ((qw.mono tl1).now (fun _ h=>h) hS)
 obtain ⟨o2,h2,c2⟩:=bnd h
 refine Ab0 (fun s w=>∃ (t4:Int) (t5:List Int),(t4,t5)=o2∧s=(t4,())∧Ho w0 w ((sl (some ⟨r1,0,none⟩) (((qj:Int)).toNat) (((qj:Int)).toNat) (List.map (Value.int .u64) t5) N.Il0)::L)) (fun J2 hJ2=>?_) ?_
 ·
  have h:=h2
  clear h2
  refine Ab6 (fun s w t=>∃ (t6:Int) (t7:Int) (t8:List Int),(t6,t7,t8)=t∧s=(t6,t7,())∧Ho w0 w ((sl (some ⟨r1,0,none⟩) (((qj:Int)).toNat) (((qj:Int)).toNat) (List.map (Value.int .u64) t8) N.Il0)::L)) ?_ h ⟨_,_,_,rfl,rfl,hS⟩
  clear h hS
  rintro s w t X q ⟨t6,t7,t8,rfl,rfl,hS⟩ h hX hO
  unfold Ap2 at h
  try dsimp only
  refine Aa2 h ?_ ?_<;>intro hc h
  ·
   obtain ⟨t9,ht9,h⟩:=bnd h
   obtain ⟨q3x,vm,q3r⟩:=atE ht9
   refine Ac7 ((qw.mono tl1).now (fun _ h=>h) hS) q3x vm q3r ?_;intro b4 hb4
   refine ⟨_,Ab4 ((qw.mono tl1).now (fun _ h=>h) hS) hb4 q3x,?_⟩
   obtain ⟨t13,ht13,h⟩:=bnd h
   refine ⟨Hs0 ht13,?_⟩
   obtain ⟨t10,ht10,h⟩:=bnd h
   obtain ⟨q5x,jc,q5r⟩:=atE ht10
   refine Bh6 ((Ent.sl mp0).now (fun _ h=>h) hS) q5x jc q5r ?_
   obtain ⟨t11,ht11,h⟩:=bnd h
   obtain rfl:=Aa0 ht11
   refine Bj9 hS rfl q5r ?_;intro w hS
   obtain ⟨t12,ht12,h⟩:=bnd h
   refine ⟨Hs0 ht12,?_⟩
   obtain rfl:=Aa0 h
   exact hX _ rfl _ _ ⟨_,_,_,rfl,rfl,hS⟩
  obtain rfl:=Aa0 h
  have h:=congrArg some (hO _ rfl)
  exact hJ2 _ _ ⟨_,_,Aa0 h,rfl,hS⟩
 clear h2 hS
 rintro s w ⟨t4,t5,rfl,rfl,hS⟩
 have h:=c2
 clear c2
 try dsimp only
 obtain ⟨t14,ht14,h⟩:=bnd h
 refine Co2 H hS (Ent.sl mp0) ht14 ?_;rintro w hS
 refine ⟨_,_,_,rfl,?_⟩
 obtain ⟨t15,ht15,h⟩:=bnd h
 obtain ⟨rfl,bo,br,zm⟩:=Ew0 ht15
 have bs:=((Ent.sl mp0).now (fun _ h=>h) hS).hiCap zm
 replace hS:=Ho.cut hS zm
 cases Aa0 h
 exact hK _ _ _ _ hS
theorem Cc3 {q0 qj qm l0 q1 u0 u1} (hS:Ho w0 w L) (qw:EU L l0 q0 qj qm) (h:Al1 l0 q1=some (u0,u1)) (hK:∀ (a0:OA) (n0 c0:Nat) (w1:World),Ho w0 w1 ((sl a0 n0 c0 (List.map (Value.int .u64) u0) N.Il0)::L)→K (.tuple #[.slice a0 n0 c0,.bool u1]) w1):Aa1 P N.Hy5 #[.slice q0 qj qm,.int .i64 q1] w K:=by
 refine H.r02_NatDown q0 qj qm q1 w _ ?_
 unfold Cl7
 unfold Al1 at h
 try dsimp only
 obtain ⟨t1,ht1,h⟩:=bnd h
 refine Al6 H hS qw ht1 ?_;rintro a1 m1 c1 w hS
 refine ⟨_,_,_,rfl,?_⟩
 obtain ⟨o2,h2,c2⟩:=bnd h
 refine Ab0 (fun s w=>∃ (t2:Bool),t2=o2∧s=(t2,())∧Ho w0 w ((sl a1 m1 c1 (List.map (Value.int .u64) t1) N.Il0)::L)) (fun J2 hJ2=>?_) ?_
 ·
  have h:=h2
  clear h2
  refine Ab6 (fun s w t=>∃ (t3:Bool) (t4:Int),(t3,t4)=t∧s=(t3,t4,())∧Ho w0 w ((sl a1 m1 c1 (List.map (Value.int .u64) t1) N.Il0)::L)) ?_ h ⟨_,_,rfl,rfl,hS⟩
  clear h hS
  rintro s w t X q ⟨t3,t4,rfl,rfl,hS⟩ h hX hO
  unfold Ak0 at h
  try dsimp only
  refine ⟨by decide,?_⟩
  refine Aa2 h ?_ ?_<;>intro hc h
  ·
   obtain ⟨t5,ht5,h⟩:=bnd h
   obtain rfl:=An6 ht5 ((Ent.sl mp0).now (fun _ h=>h) hS)
   refine Aa2 h ?_ ?_<;>intro hc h
   ·
    refine Aa2 h ?_ ?_<;>intro hc h
    ·
     obtain ⟨t6,ht6,h⟩:=bnd h
     obtain ⟨q3x,vm,q3r⟩:=atE ht6
     refine Ac7 ((Ent.sl mp0).now (fun _ h=>h) hS) q3x vm q3r ?_;intro b4 hb4
     refine ⟨_,Ab4 ((Ent.sl mp0).now (fun _ h=>h) hS) hb4 q3x,?_⟩
     obtain rfl:=Aa0 h
     exact hX _ rfl _ _ ⟨_,_,rfl,rfl,hS⟩
    obtain rfl:=Aa0 h
    exact hX _ rfl _ _ ⟨_,_,rfl,rfl,hS⟩
   obtain rfl:=Aa0 h
   have h:=congrArg some (hO _ rfl)
   exact hJ2 _ _ ⟨_,Aa0 h,rfl,hS⟩
  obtain rfl:=Aa0 h
  have h:=congrArg some (hO _ rfl)
  exact hJ2 _ _ ⟨_,Aa0 h,rfl,hS⟩
 clear h2 hS
 rintro s w ⟨t2,rfl,rfl,hS⟩
 have h:=c2
 clear c2
 try dsimp only
 refine ⟨by decide,?_⟩
 obtain ⟨t7,ht7,h⟩:=bnd h
 obtain rfl:=An6 ht7 ((Ent.sl mp0).now (fun _ h=>h) hS)
 refine Aa2 h ?_ ?_<;>intro hc h
 ·
  replace hS:=hS.none (α:=Int) (enc:=(Value.int .u64)) (t:=N.Il0)
  cases Aa0 h
  exact hK _ _ _ _ (hS.pick (A:=[_,_]) [0] rfl)
 obtain ⟨o5,h5,c5⟩:=bnd h
 refine Ab0 (fun s w=>∃ (t8:Int),t8=o5∧s=(t8,())∧Ho w0 w ((sl a1 m1 c1 (List.map (Value.int .u64) t1) N.Il0)::L)) (fun J5 hJ5=>?_) ?_
 ·
  have h:=h5
  clear h5
  refine Ab6 (fun s w t=>∃ (t9:Int) (t10:Int),(t9,t10)=t∧s=(t9,t10,())∧Ho w0 w ((sl a1 m1 c1 (List.map (Value.int .u64) t1) N.Il0)::L)) ?_ h ⟨_,_,rfl,rfl,hS⟩
  clear h hS
  rintro s w t X q ⟨t9,t10,rfl,rfl,hS⟩ h hX hO
  unfold Au9 at h
  try dsimp only
  refine ⟨by decide,?_⟩
  refine Aa2 h ?_ ?_<;>intro hc h
  ·
   obtain rfl:=Aa0 h
   exact hX _ rfl _ _ ⟨_,_,rfl,rfl,hS⟩
  obtain rfl:=Aa0 h
  have h:=congrArg some (hO _ rfl)
  exact hJ5 _ _ ⟨_,Aa0 h,rfl,hS⟩
 clear h5 hS
 rintro s w ⟨t8,rfl,rfl,hS⟩
 have h:=c5
 clear c5
 try dsimp only
 refine ⟨by decide,?_⟩
 obtain ⟨t12,ht12,h⟩:=bnd h
 obtain rfl:=An6 ht12 ((Ent.sl mp0).now (fun _ h=>h) hS)
 obtain ⟨t11,ht11,h⟩:=bnd h
 obtain ⟨rfl,zn,zo,bt⟩:=Ew0 ht11
 refine ⟨(by first | exact zn | omega),(by first | exact zo | omega),?_⟩
 obtain ⟨⟨t13,t14⟩,ho13,h⟩:=bnd h
 refine Em9 H hS (Ent.from (Ent.sl mp0) zn zo) ho13 ?_;clear hS ho13;rintro a7 m7 c7 w hS
 refine ⟨_,_,_,_,rfl,?_⟩
 obtain ⟨t15,ht15,h⟩:=bnd h
 refine Bd1 H hS (Ent.sl mp0) ht15 ?_;rintro a8 m8 c8 w hS
 refine ⟨_,_,_,rfl,?_⟩
 refine Aa2 h ?_ ?_<;>intro hc h
 ·
  cases Aa0 h
  exact hK _ _ _ _ (hS.pick (A:=[_,_,_]) [0] rfl)
 cases Aa0 h
 exact hK _ _ _ _ (hS.pick (A:=[_,_,_]) [0] rfl)
theorem Eu7 {q0 q1 q2 q3 u0} (hS:Ho w0 w L)  (h:Ax3 q0 q1 q2 q3=some u0) (hK:∀ w1,Ho w0 w1 L→K (.bool u0) w1):Aa1 P N.Il5 #[.int .i8 q0,.bool q1,.int .i64 q2,.bool q3] w K:=by
 refine H.r02_up q0 q1 q2 q3 w _ ?_
 unfold Fe6
 unfold Ax3 at h
 try dsimp only
 refine Aa2 h ?_ ?_<;>intro hc h
 ·
  cases Aa0 h
  exact hK _ hS
 refine Aa2 h ?_ ?_<;>intro hc h
 ·
  cases Aa0 h
  exact hK _ hS
 refine Aa2 h ?_ ?_<;>intro hc h
 ·
  cases Aa0 h
  exact hK _ hS
 refine Aa2 h ?_ ?_<;>intro hc h
 ·
  refine Aa2 h ?_ ?_<;>intro hc h
  ·
   cases Aa0 h
   exact hK _ hS
  cases Aa0 h
  exact hK _ hS
 cases Aa0 h
 exact hK _ hS
end Go.Eng
