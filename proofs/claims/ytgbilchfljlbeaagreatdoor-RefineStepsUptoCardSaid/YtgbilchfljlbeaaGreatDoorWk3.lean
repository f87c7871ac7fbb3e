/-
 Each function comes to what its function of plain Lean says, printed by a program of the session. No condition.
-/
import Derived.Test.YtgbilchfljlbeaaGreatDoorWk2
set_option linter.all false
set_option maxRecDepth 100000
set_option maxHeartbeats 4000000
namespace Go.Eng
open Go
open Go.IntKind (i64 u64 u32 u8)
variable {N:Nums} {P:Program} (H:AllOk N P) {w0 w:World} {L:List It} {K:KV}
include H
theorem wk_r14_Left {qa qc qe qb qg qq q1 qo qu vm q2 qy vg vz u0 u1} (hS:Ho w0 w L) (qp:EF L qq qe qb qg) (qz:EF L vm q1 qo qu) (ya:EF L vz q2 qy vg) (h:T_r14_Left qa qc (List.map nf qq) (List.map nf vm) (List.map nf vz)=some (u0,u1)) (hK:∀ (a0:OA) (n0 c0:Nat) (rws0:List Nat) (w1:World),List.map nf rws0=u0→Ho w0 w1 ((sl a0 n0 c0 (List.map (Value.float .f64) rws0) N.t_float64)::L)→K (.tuple #[.slice a0 n0 c0,.int .i64 u1]) w1):CallsX P N.f_r14_Left #[.agg #[.int .i64 qa,.int .i64 qc,.slice qe qb qg],.slice q1 qo qu,.slice q2 qy vg] w K:=by
 refine H.r14_Left qa qc qe qb qg q1 qo qu q2 qy vg w _ ?_
 unfold S_r14_Left
 unfold T_r14_Left at h
 try dsimp only
 refine newM_s hS ?_;intro r1 w hS
 refine ⟨_,hS.cel mp0 rfl,_,hS.cel mp0 rfl,_,_,_,hS.cel mp0 rfl,?_⟩
 obtain ⟨t1,ht1,h⟩:=bnd h
 refine wk_r14_fit H hS (qp.mono tl1) (qz.mono tl1) (ya.mono tl1) ht1 ?_;rintro w hS
 refine ⟨_,rfl,?_⟩
 refine cond_s h ?_ ?_<;>intro hc h
 ·
  replace hS:=hS.none (α:=Nat) (enc:=(Value.float .f64)) (t:=N.t_float64)
  cases some_inj h
  exact hK _ _ _ _ _ rfl (hS.pick (A:=[_,_]) [0] rfl)
 obtain ⟨o2,h2,c2⟩:=bnd h
 refine cutM_i (fun s w=>∃ (t2:Bool),t2=o2∧s=(t2,())∧Ho w0 w ((cl r1 [.int .i64 qa,.int .i64 qc,.slice qe qb qg] N.t_Matrix)::L)) (fun J2 hJ2=>?_) ?_
 ·
  have h:=h2
  clear h2
  refine ⟨_,_,_,hS.cel mp0 rfl,?_⟩
  obtain ⟨t3,ht3,h⟩:=bnd h
  refine wk_r14_finite H hS (qp.mono tl1) ht3 ?_;rintro w hS
  refine ⟨_,rfl,?_⟩
  refine cond_s h ?_ ?_<;>intro hc h
  ·
   obtain ⟨t4,ht4,h⟩:=bnd h
   refine wk_r14_finite H hS (qz.mono tl1) ht4 ?_;rintro w hS
   refine ⟨_,rfl,?_⟩
   refine cond_s h ?_ ?_<;>intro hc h
   ·
    obtain ⟨t5,ht5,h⟩:=bnd h
    refine wk_r14_finite H hS (ya.mono tl1) ht5 ?_;rintro w hS
    refine ⟨_,rfl,?_⟩
    exact hJ2 _ _ ⟨_,some_inj h,rfl,hS⟩
   exact hJ2 _ _ ⟨_,some_inj h,rfl,hS⟩
  exact hJ2 _ _ ⟨_,some_inj h,rfl,hS⟩
 clear h2 hS
 rintro s w ⟨t2,rfl,rfl,hS⟩
 have h:=c2
 clear c2
 try dsimp only
 refine cond_s h ?_ ?_<;>intro hc h
 ·
  replace hS:=hS.none (α:=Nat) (enc:=(Value.float .f64)) (t:=N.t_float64)
  cases some_inj h
  exact hK _ _ _ _ _ rfl (hS.pick (A:=[_,_]) [0] rfl)
 obtain ⟨o7,h7,c7⟩:=bnd h
 refine cutM_i (fun s w=>∃ (a3:OA) (m4:Nat) (c5:Nat) (yk:List Nat),(List.map nf yk)=o7∧s=((a3,m4,c5),())∧Ho w0 w ((sl a3 m4 c5 (List.map (Value.float .f64) yk) N.t_float64)::L)) (fun J7 hJ7=>?_) ?_
 ·
  have h:=h7
  clear h7
  replace hS:=hS.none (α:=Nat) (enc:=(Value.float .f64)) (t:=N.t_float64)
  refine iter_sim (fun s w t=>∃ (t7:Int) (a8:OA) (m9:Nat) (c10:Nat) (je:List Nat),(t7,(List.map nf je))=t∧s=((a8,m9,c10),t7,())∧Ho w0 w ((cl r1 [.int .i64 qa,.int .i64 qc,.slice qe qb qg] N.t_Matrix)::(sl a8 m9 c10 (List.map (Value.float .f64) je) N.t_float64)::L)) ?_ h ⟨_,_,_,_,_,rfl,rfl,(hS.pick (A:=[_,_]) [1,0] rfl)⟩
  clear h hS
  rintro s w t X q ⟨t7,a8,m9,c10,je,rfl,rfl,hS⟩ h hX hO
  unfold T_r14_Left_b7 at h
  try dsimp only
  refine ⟨_,hS.cel mp0 rfl,?_⟩
  refine cond_s h ?_ ?_<;>intro hc h
  ·
   obtain ⟨t9,ht9,h⟩:=bnd h
   obtain ⟨z12,rfl,q13x,yw,q13r⟩:=atF ht9
   refine idx_s ((ya.mono tl2).now (fun _ h=>h) hS) q13x yw q13r ?_;intro b14 hb14
   refine ⟨_,rd_get ((ya.mono tl2).now (fun _ h=>h) hS) hb14 q13x,?_⟩
   obtain ⟨⟨t10,t11,t12⟩,ho10,h⟩:=bnd h
   refine wk_r02_Float H hS  ho10 ?_;clear hS ho10;rintro a15 m15 c15 w hS
   refine ⟨_,_,_,_,_,rfl,?_⟩
   refine newM_s hS ?_;intro r16 w hS
   refine stc_s hS rfl rfl ?_;intro w hS
   refine stc_s hS rfl rfl ?_;intro w hS
   refine stc_s hS rfl rfl ?_;intro w hS
   obtain ⟨o22,h22,c22⟩:=bnd h
   refine cutM_i (fun s w=>∃ (t13:Bool) (t14:Int) (a17:OA) (m18:Nat) (c19:Nat) (t15:List Int) (it20:It),(t13,t14,t15)=o22∧s=(())∧Ent (it20::L) (rdA (List.map (Value.int .u64) t15) a17 m18 c19)∧Ho w0 w ((cl r16 [.bool t13,.slice a17 m18 c19,.int .i64 t14] N.t_r02_Num)::(cl r1 [.int .i64 qa,.int .i64 qc,.slice qe qb qg] N.t_Matrix)::(sl a8 m9 c10 (List.map (Value.float .f64) je) N.t_float64)::it20::L)) (fun J22 hJ22=>?_) ?_
   ·
    have h:=h22
    clear h22
    refine iter_sim (fun s w t=>∃ (t16:Int) (t17:Bool) (t18:Int) (a23:OA) (m24:Nat) (c25:Nat) (t19:List Int) (it26:It),(t16,t17,t18,t19)=t∧s=(t16,())∧Ent (it26::L) (rdA (List.map (Value.int .u64) t19) a23 m24 c25)∧Ho w0 w ((cl r16 [.bool t17,.slice a23 m24 c25,.int .i64 t18] N.t_r02_Num)::(cl r1 [.int .i64 qa,.int .i64 qc,.slice qe qb qg] N.t_Matrix)::(sl a8 m9 c10 (List.map (Value.float .f64) je) N.t_float64)::it26::L)) ?_ h ⟨_,_,_,_,_,_,_,_,rfl,rfl,(Ent.sl mp0),(hS.pick (A:=[_,_,_,_]) [0,1,1,0] rfl)⟩
    clear h hS
    rintro s w t X q ⟨t16,t17,t18,a23,m24,c25,t19,it26,rfl,rfl,e27,hS⟩ h hX hO
    unfold T_r14_Left_b9 at h
    try dsimp only
    refine ⟨_,hS.cel mp1 rfl,?_⟩
    refine cond_s h ?_ ?_<;>intro hc h
    ·
     obtain ⟨o32,h32,c32⟩:=bnd h
     refine cutM_i (fun s w=>∃ (r28:Nat) (t20:Bool) (t21:Int) (a29:OA) (m30:Nat) (c31:Nat) (t22:List Int),(t20,t21,t22)=o32∧s=((some ⟨r28,0,none⟩),())∧Ho w0 w ((cl r28 [.bool t20,.slice a29 m30 c31,.int .i64 t21] N.t_r02_Num)::(sl a29 m30 c31 (List.map (Value.int .u64) t22) N.t_uint64)::(cl r16 [.bool t17,.slice a23 m24 c25,.int .i64 t18] N.t_r02_Num)::(cl r1 [.int .i64 qa,.int .i64 qc,.slice qe qb qg] N.t_Matrix)::(sl a8 m9 c10 (List.map (Value.float .f64) je) N.t_float64)::it26::L)) (fun J32 hJ32=>?_) ?_
     ·
      have h:=h32
      clear h32
      refine ⟨_,_,_,hS.cel mp1 rfl,_,hS.cel mp1 rfl,?_⟩
      obtain ⟨t23,ht23,h⟩:=bnd h
      obtain ⟨z33,rfl,q34x,gd,q34r⟩:=atF ht23
      refine idx_s ((qp.mono tl4).now (fun _ h=>h) hS) q34x gd q34r ?_;intro b35 hb35
      refine ⟨_,rd_get ((qp.mono tl4).now (fun _ h=>h) hS) hb35 q34x,?_⟩
      obtain ⟨t24,ht24,h⟩:=bnd h
      obtain ⟨z36,rfl,q37x,zf,q37r⟩:=atF ht24
      refine idx_s ((qz.mono tl4).now (fun _ h=>h) hS) q37x zf q37r ?_;intro b38 hb38
      refine ⟨_,rd_get ((qz.mono tl4).now (fun _ h=>h) hS) hb38 q37x,?_⟩
      refine ⟨?_,?_⟩
      ·
       refine drM_s hS ?_;intro w hS
       obtain ⟨⟨t25,t26,t27⟩,ho25,h⟩:=bnd h
       refine wk_r02_Float H hS  ho25 ?_;clear hS ho25;rintro a39 m39 c39 w hS
       refine ⟨_,_,_,_,_,rfl,?_⟩
       refine ⟨rd_get ((qz.mono tl5).now (fun _ h=>h) hS) hb38 q37x,?_⟩
       refine ⟨?_,?_⟩
       ·
        refine drM_s hS ?_;intro w hS
        obtain ⟨⟨t28,t29,t30⟩,ho28,h⟩:=bnd h
        refine wk_r02_Float H hS  ho28 ?_;clear hS ho28;rintro a40 m40 c40 w hS
        refine ⟨_,_,_,_,_,rfl,?_⟩
        refine ⟨?_,?_⟩
        ·
         refine drM_s hS ?_;intro w hS
         obtain ⟨⟨t31,t32,t33⟩,ho31,h⟩:=bnd h
         refine wk_r02_Times H hS (Ent.sl mp1) (Ent.sl mp0) ho31 ?_;clear hS ho31;rintro a41 m41 c41 w hS
         refine ⟨_,_,_,_,_,rfl,?_⟩
         refine drM_s hS ?_;intro w hS
         refine newM_s hS ?_;intro r42 w hS
         refine drM_s hS ?_;intro w hS
         refine stc_s hS rfl rfl ?_;intro w hS
         refine stc_s hS rfl rfl ?_;intro w hS
         refine stc_s hS rfl rfl ?_;intro w hS
         refine drM_s hS ?_;intro w hS
         obtain rfl:=some_inj h
         exact hJ32 _ _ ⟨_,_,_,_,_,_,_,rfl,rfl,(hS.pick (A:=[_,_,_,_,_,_,_,_]) [0,0,2,2,2,2] rfl)⟩
        refine drM_s hS ?_;intro w hS
        refine newM_s hS ?_;intro r43 w hS
        refine drM_s hS ?_;intro w hS
        obtain ⟨⟨t31,t32,t33⟩,ho31,h⟩:=bnd h
        refine wk_r02_Times H hS (Ent.sl mp2) (Ent.sl mp1) ho31 ?_;clear hS ho31;rintro a44 m44 c44 w hS
        refine ⟨_,_,_,_,_,rfl,?_⟩
        refine drM_s hS ?_;intro w hS
        replace hS:=ro1 hS
        refine stc_s hS rfl rfl ?_;intro w hS
        refine stc_s hS rfl rfl ?_;intro w hS
        refine stc_s hS rfl rfl ?_;intro w hS
        refine drM_s hS ?_;intro w hS
        obtain rfl:=some_inj h
        exact hJ32 _ _ ⟨_,_,_,_,_,_,_,rfl,rfl,(hS.pick (A:=[_,_,_,_,_,_,_,_]) [0,0,2,2,2,2] rfl)⟩
       refine drM_s hS ?_;intro w hS
       refine newM_s hS ?_;intro r45 w hS
       refine ⟨rd_get ((qz.mono tl6).now (fun _ h=>h) hS) hb38 q37x,?_⟩
       refine drM_s hS ?_;intro w hS
       obtain ⟨⟨t28,t29,t30⟩,ho28,h⟩:=bnd h
       refine wk_r02_Float H hS  ho28 ?_;clear hS ho28;rintro a46 m46 c46 w hS
       refine ⟨_,_,_,_,_,rfl,?_⟩
       refine drM_s hS ?_;intro w hS
       obtain ⟨⟨t31,t32,t33⟩,ho31,h⟩:=bnd h
       refine wk_r02_Times H hS (Ent.sl mp2) (Ent.sl mp0) ho31 ?_;clear hS ho31;rintro a47 m47 c47 w hS
       refine ⟨_,_,_,_,_,rfl,?_⟩
       refine drM_s hS ?_;intro w hS
       replace hS:=ro2 hS
       refine stc_s hS rfl rfl ?_;intro w hS
       refine stc_s hS rfl rfl ?_;intro w hS
       refine stc_s hS rfl rfl ?_;intro w hS
       refine drM_s hS ?_;intro w hS
       obtain rfl:=some_inj h
       exact hJ32 _ _ ⟨_,_,_,_,_,_,_,rfl,rfl,(hS.pick (A:=[_,_,_,_,_,_,_,_]) [0,0,2,2,2,2] rfl)⟩
      refine drM_s hS ?_;intro w hS
      refine newM_s hS ?_;intro r48 w hS
      refine ⟨rd_get ((qz.mono tl5).now (fun _ h=>h) hS) hb38 q37x,?_⟩
      refine ⟨rd_get ((qp.mono tl5).now (fun _ h=>h) hS) hb35 q34x,?_⟩
      refine ⟨(hS.cel mp2 rfl),?_⟩
      refine ⟨(hS.cel mp2 rfl),?_⟩
      refine drM_s hS ?_;intro w hS
      obtain ⟨⟨t25,t26,t27⟩,ho25,h⟩:=bnd h
      refine wk_r02_Float H hS  ho25 ?_;clear hS ho25;rintro a49 m49 c49 w hS
      refine ⟨_,_,_,_,_,rfl,?_⟩
      refine ⟨rd_get ((qz.mono tl6).now (fun _ h=>h) hS) hb38 q37x,?_⟩
      refine drM_s hS ?_;intro w hS
      obtain ⟨⟨t28,t29,t30⟩,ho28,h⟩:=bnd h
      refine wk_r02_Float H hS  ho28 ?_;clear hS ho28;rintro a50 m50 c50 w hS
      refine ⟨_,_,_,_,_,rfl,?_⟩
      refine drM_s hS ?_;intro w hS
      obtain ⟨⟨t31,t32,t33⟩,ho31,h⟩:=bnd h
      refine wk_r02_Times H hS (Ent.sl mp1) (Ent.sl mp0) ho31 ?_;clear hS ho31;rintro a51 m51 c51 w hS
      refine ⟨_,_,_,_,_,rfl,?_⟩
      refine drM_s hS ?_;intro w hS
      replace hS:=ro3 hS
      refine stc_s hS rfl rfl ?_;intro w hS
      refine stc_s hS rfl rfl ?_;intro w hS
      refine stc_s hS rfl rfl ?_;intro w hS
      refine drM_s hS ?_;intro w hS
      obtain rfl:=some_inj h
      exact hJ32 _ _ ⟨_,_,_,_,_,_,_,rfl,rfl,(hS.pick (A:=[_,_,_,_,_,_,_,_]) [0,0,2,2,2,2] rfl)⟩
     clear h32 hS
     rintro s w ⟨r28,t20,t21,a29,m30,c31,t22,rfl,rfl,hS⟩
     have h:=c32
     clear c32
     try dsimp only
     refine ⟨_,hS.cel mp2 rfl,_,_,_,hS.cel mp2 rfl,_,hS.cel mp2 rfl,?_⟩
     refine optM_s ?_
     refine ⟨_,hS.cel mp0 rfl,_,_,_,hS.cel mp0 rfl,_,hS.cel mp0 rfl,?_⟩
     refine drM_s hS ?_;intro w hS
     obtain ⟨⟨t34,t35,t36⟩,ho34,h⟩:=bnd h
     refine wk_r02_Minus H hS (Ent.sl mp1) ho34 ?_;clear hS ho34;rintro w rfl hS
     refine ⟨_,_,_,_,_,rfl,?_⟩
     refine ⟨(hS.cel mp2 rfl),?_⟩
     refine ⟨(hS.cel mp2 rfl),?_⟩
     refine ⟨(hS.cel mp2 rfl),?_⟩
     refine drM_s hS ?_;intro w hS
     obtain ⟨⟨t37,t38,t39⟩,ho37,h⟩:=bnd h
     refine wk_r02_Plus H hS (e27.mono (incl_cons mp5 tl6)) (Ent.sl mp1) ho37 ?_;clear hS ho37;rintro it53 a53 m53 c53 w e53 hS
     refine ⟨_,_,_,_,_,rfl,?_⟩
     refine drM_s hS ?_;intro w hS
     replace hS:=ro3 hS
     refine stc_s hS rfl rfl ?_;intro w hS
     refine stc_s hS rfl rfl ?_;intro w hS
     refine stc_s hS rfl rfl ?_;intro w hS
     refine drM_s hS ?_;intro w hS
     replace hS:=ro3 hS
     replace hS:=ro6 hS
     replace hS:=ro3 hS
     replace hS:=hS.both
     replace hS:=hS.both
     obtain rfl:=some_inj h
     exact hX _ rfl _ _ ⟨_,_,_,_,_,_,_,_,rfl,rfl,(e53 _ mp0 (e27.mono (incl_cons mp1 tl3)) (Ent.sl mp2)).both.both,(hS.pick (A:=[_,_,_,_,_]) [1,2,2,0] rfl)⟩
    obtain rfl:=some_inj h
    have h:=congrArg some (hO _ rfl)
    obtain rfl:=some_inj h
    exact hJ22 _ _ ⟨_,_,_,_,_,_,_,rfl,rfl,e27,hS⟩
   clear h22 hS
   rintro s w ⟨t13,t14,a17,m18,c19,t15,it20,rfl,rfl,e21,hS⟩
   have h:=c22
   clear c22
   try dsimp only
   refine ⟨_,hS.cel mp0 rfl,_,_,_,hS.cel mp0 rfl,_,hS.cel mp0 rfl,?_⟩
   obtain ⟨t40,ht40,h⟩:=bnd h
   refine wk_r02_Rounded H hS (e21.mono (incl_cons mp3 tl4)) ht40 ?_;rintro z54 w rfl hS
   refine ⟨_,rfl,?_⟩
   obtain ⟨t41,ht41,h⟩:=bnd h
   obtain rfl:(List.map nf ([z54]:List Nat))=t41:=some_inj ht41
   refine lit_s (ks:=[z54]) (enc:=(Value.float .f64)) (m:=1) hS rfl rfl ?_;intro r55 w hS
   obtain ⟨t42,ht42,h⟩:=bnd h
   obtain ⟨rfl,kt42⟩:=appF ht42
   replace hS:=ro3 hS
   refine app_s hS kt42 ((Ent.sl mp1).now (fun _ h=>h) hS) (fun _=>rfl) rfl ?_;clear hS kt42;intro a56 c56 w hS
   obtain rfl:=some_inj h
   exact hX _ rfl _ _ ⟨_,_,_,_,_,rfl,rfl,(hS.pick (A:=[_,_,_,_,_]) [3,0] rfl)⟩
  obtain rfl:=some_inj h
  have h:=congrArg some (hO _ rfl)
  obtain rfl:=some_inj h
  exact hJ7 _ _ ⟨_,_,_,_,rfl,rfl,(hS.pick (A:=[_,_]) [1] rfl)⟩
 clear h7 hS
 rintro s w ⟨a3,m4,c5,yk,rfl,rfl,hS⟩
 have h:=c7
 clear c7
 try dsimp only
 obtain ⟨t43,ht43,h⟩:=bnd h
 refine wk_r14_finite H hS (Ent.sl mp0) ht43 ?_;rintro w hS
 refine ⟨_,rfl,?_⟩
 refine cond_s h ?_ ?_<;>intro hc h
 ·
  replace hS:=hS.none (α:=Nat) (enc:=(Value.float .f64)) (t:=N.t_float64)
  cases some_inj h
  exact hK _ _ _ _ _ rfl (hS.pick (A:=[_,_]) [0] rfl)
 cases some_inj h
 exact hK _ _ _ _ _ rfl hS
theorem wk_r13_Right {qa qc qd qf qx qe qb qg qq u0} (hS:Ho w0 w L) (qm:EF L qx qc qd qf) (qp:EF L qq qe qb qg) (h:T_r13_Right qa (List.map nf qx) (List.map nf qq)=some u0) (hK:∀ w1,Ho w0 w1 L→K (.bool u0) w1):CallsX P N.f_r13_Right #[.agg #[.int .i64 qa,.slice qc qd qf,.slice qe qb qg]] w K:=by
 refine H.r13_Right qa qc qd qf qe qb qg w _ ?_
 unfold S_r13_Right
 unfold T_r13_Right at h
 try dsimp only
 refine newM_s hS ?_;intro r1 w hS
 refine ⟨_,hS.cel mp0 rfl,?_⟩
 refine cond_s h ?_ ?_<;>intro hc h
 ·
  refine ⟨_,hS.cel mp0 rfl,?_⟩
  refine cond_s h ?_ ?_<;>intro hc h
  ·
   refine ⟨_,_,_,hS.cel mp0 rfl,?_⟩
   obtain ⟨t1,ht1,h⟩:=bnd h
   obtain rfl:=lenF ht1 ((qm.mono tl1).now (fun _ h=>h) hS)
   refine ⟨_,hS.cel mp0 rfl,_,hS.cel mp0 rfl,?_⟩
   refine ⟨by decide,?_⟩
   refine cond_s h ?_ ?_<;>intro hc h
   ·
    refine ⟨_,_,_,hS.cel mp0 rfl,?_⟩
    obtain ⟨t2,ht2,h⟩:=bnd h
    obtain rfl:=lenF ht2 ((qp.mono tl1).now (fun _ h=>h) hS)
    refine ⟨_,hS.cel mp0 rfl,?_⟩
    cases some_inj h
    exact hK _ (hS.pick (A:=[_]) [] rfl)
   cases some_inj h
   exact hK _ (hS.pick (A:=[_]) [] rfl)
  cases some_inj h
  exact hK _ (hS.pick (A:=[_]) [] rfl)
 cases some_inj h
 exact hK _ (hS.pick (A:=[_]) [] rfl)
theorem wk_r13_at {qa qc qd qf qx qe qb qg qq q1 q2 u0} (hS:Ho w0 w L) (qm:EF L qx qc qd qf) (qp:EF L qq qe qb qg) (h:T_r13_at qa (List.map nf qx) (List.map nf qq) q1 q2=some u0) (hK:∀ (z0:Nat) (w1:World),nf z0=u0→Ho w0 w1 L→K (.float .f64 z0) w1):CallsX P N.f_r13_at #[.agg #[.int .i64 qa,.slice qc qd qf,.slice qe qb qg],.int .i64 q1,.int .i64 q2] w K:=by
 refine H.r13_at qa qc qd qf qe qb qg q1 q2 w _ ?_
 unfold S_r13_at
 unfold T_r13_at at h
 try dsimp only
 refine newM_s hS ?_;intro r1 w hS
 refine ⟨_,_,_,hS.cel mp0 rfl,?_⟩
 refine ⟨by decide,?_⟩
 obtain ⟨t1,ht1,h⟩:=bnd h
 obtain ⟨z2,rfl,q3x,vn,q3r⟩:=atF ht1
 refine idx_s ((qm.mono tl1).now (fun _ h=>h) hS) q3x vn q3r ?_;intro b4 hb4
 refine ⟨_,rd_get ((qm.mono tl1).now (fun _ h=>h) hS) hb4 q3x,?_⟩
 cases some_inj h
 exact hK _ _ rfl (hS.pick (A:=[_]) [] rfl)
theorem wk_r13_Forward {qa qc qd qf qx qe qb qg qq q1 qo qu vm u0 u1} (hS:Ho w0 w L) (qm:EF L qx qc qd qf) (qp:EF L qq qe qb qg) (qz:EF L vm q1 qo qu) (h:T_r13_Forward qa (List.map nf qx) (List.map nf qq) (List.map nf vm)=some (u0,u1)) (hK:∀ (a0:OA) (n0 c0:Nat) (rws0:List Nat) (w1:World),List.map nf rws0=u0→Ho w0 w1 ((sl a0 n0 c0 (List.map (Value.float .f64) rws0) N.t_float64)::L)→K (.tuple #[.slice a0 n0 c0,.int .i64 u1]) w1):CallsX P N.f_r13_Forward #[.agg #[.int .i64 qa,.slice qc qd qf,.slice qe qb qg],.slice q1 qo qu] w K:=by
 refine H.r13_Forward qa qc qd qf qe qb qg q1 qo qu w _ ?_
 unfold S_r13_Forward
 unfold T_r13_Forward at h
 try dsimp only
 refine newM_s hS ?_;intro r1 w hS
 obtain ⟨o2,h2,c2⟩:=bnd h
 refine cutM_i (fun s w=>∃ (t1:Bool),t1=o2∧s=(t1,())∧Ho w0 w ((cl r1 [.int .i64 qa,.slice qc qd qf,.slice qe qb qg] N.t_Factor)::L)) (fun J2 hJ2=>?_) ?_
 ·
  have h:=h2
  clear h2
  refine ⟨_,hS.cel mp0 rfl,_,_,_,hS.cel mp0 rfl,_,_,_,hS.cel mp0 rfl,?_⟩
  obtain ⟨t2,ht2,h⟩:=bnd h
  refine wk_r13_Right H hS (qm.mono tl1) (qp.mono tl1) ht2 ?_;rintro w hS
  refine ⟨_,rfl,?_⟩
  refine cond_s h ?_ ?_<;>intro hc h
  ·
   obtain ⟨t3,ht3,h⟩:=bnd h
   obtain rfl:=lenF ht3 ((qz.mono tl1).now (fun _ h=>h) hS)
   refine ⟨_,hS.cel mp0 rfl,?_⟩
   exact hJ2 _ _ ⟨_,some_inj h,rfl,hS⟩
  exact hJ2 _ _ ⟨_,some_inj h,rfl,hS⟩
 clear h2 hS
 rintro s w ⟨t1,rfl,rfl,hS⟩
 have h:=c2
 clear c2
 try dsimp only
 refine cond_s h ?_ ?_<;>intro hc h
 ·
  replace hS:=hS.none (α:=Nat) (enc:=(Value.float .f64)) (t:=N.t_float64)
  cases some_inj h
  exact hK _ _ _ _ _ rfl (hS.pick (A:=[_,_]) [0] rfl)
 refine ⟨_,hS.cel mp0 rfl,?_⟩
 obtain ⟨t4,ht4,h⟩:=bnd h
 obtain ⟨rfl,kt4⟩:=mkF ht4
 refine mk_s (enc:=(Value.float .f64)) hS kt4 rfl ?_;clear hS kt4;intro r3 w hS
 obtain ⟨o5,h5,c5⟩:=bnd h
 refine cutM_i (fun s w=>∃ (jd:List Nat),(List.map nf jd)=o5∧s=(())∧Ho w0 w ((sl (some ⟨r3,0,none⟩) ((qa).toNat) ((qa).toNat) (List.map (Value.float .f64) jd) N.t_float64)::L)) (fun J5 hJ5=>?_) ?_
 ·
  have h:=h5
  clear h5
  refine iter_sim (fun s w t=>∃ (t6:Int) (yk:List Nat),(t6,(List.map nf yk))=t∧s=(t6,())∧Ho w0 w ((sl (some ⟨r3,0,none⟩) ((qa).toNat) ((qa).toNat) (List.map (Value.float .f64) yk) N.t_float64)::(cl r1 [.int .i64 qa,.slice qc qd qf,.slice qe qb qg] N.t_Factor)::L)) ?_ h ⟨_,_,rfl,rfl,hS⟩
  clear h hS
  rintro s w t X q ⟨t6,yk,rfl,rfl,hS⟩ h hX hO
  unfold T_r13_Forward_b7 at h
  try dsimp only
  refine ⟨_,hS.cel mp1 rfl,?_⟩
  refine cond_s h ?_ ?_<;>intro hc h
  ·
   obtain ⟨t8,ht8,h⟩:=bnd h
   obtain ⟨z7,rfl,q8x,yj,q8r⟩:=atF ht8
   refine idx_s ((qz.mono tl2).now (fun _ h=>h) hS) q8x yj q8r ?_;intro b9 hb9
   refine ⟨_,rd_get ((qz.mono tl2).now (fun _ h=>h) hS) hb9 q8x,?_⟩
   obtain ⟨o11,h11,c11⟩:=bnd h
   refine cutM_i (fun s w=>∃ (z10:Nat),(nf z10)=o11∧s=(z10,())∧Ho w0 w ((sl (some ⟨r3,0,none⟩) ((qa).toNat) ((qa).toNat) (List.map (Value.float .f64) yk) N.t_float64)::(cl r1 [.int .i64 qa,.slice qc qd qf,.slice qe qb qg] N.t_Factor)::L)) (fun J11 hJ11=>?_) ?_
   ·
    have h:=h11
    clear h11
    refine iter_sim (fun s w t=>∃ (z12:Nat) (t11:Int),((nf z12),t11)=t∧s=(z12,t11,())∧Ho w0 w ((sl (some ⟨r3,0,none⟩) ((qa).toNat) ((qa).toNat) (List.map (Value.float .f64) yk) N.t_float64)::(cl r1 [.int .i64 qa,.slice qc qd qf,.slice qe qb qg] N.t_Factor)::L)) ?_ h ⟨_,_,rfl,rfl,hS⟩
    clear h hS
    rintro s w t X q ⟨z12,t11,rfl,rfl,hS⟩ h hX hO
    unfold T_r13_Forward_b9 at h
    try dsimp only
    refine cond_s h ?_ ?_<;>intro hc h
    ·
     refine ⟨_,hS.cel mp1 rfl,_,_,_,hS.cel mp1 rfl,_,_,_,hS.cel mp1 rfl,?_⟩
     obtain ⟨t12,ht12,h⟩:=bnd h
     obtain ⟨z13,rfl,q14x,yx,q14r⟩:=atF ht12
     refine idy_s ((Ent.sl mp0).now (fun _ h=>h) hS) q14x yx q14r ?_
     refine ⟨_,rd_get ((Ent.sl mp0).now (fun _ h=>h) hS) rfl q14x,?_⟩
     refine drM_s hS ?_;intro w hS
     obtain ⟨t13,ht13,h⟩:=bnd h
     refine wk_r13_at H hS (qm.mono tl2) (qp.mono tl2) ht13 ?_;rintro z16 w rfl hS
     refine ⟨_,rfl,?_⟩
     refine ⟨rd_get ((Ent.sl mp0).now (fun _ h=>h) hS) rfl q14x,?_⟩
     obtain ⟨t14,ht14,h⟩:=bnd h
     refine fmul_s ht14 hS ?_;clear ht14;rintro z17 _ rfl _
     refine drM_s hS ?_;intro w hS
     obtain ⟨t15,ht15,h⟩:=bnd h
     refine fsub_s ht15 hS ?_;rintro z18 w rfl hS
     obtain rfl:=some_inj h
     exact hX _ rfl _ _ ⟨_,_,rfl,rfl,hS⟩
    obtain rfl:=some_inj h
    have h:=congrArg some (hO _ rfl)
    exact hJ11 _ _ ⟨_,some_inj h,rfl,hS⟩
   clear h11 hS
   rintro s w ⟨z10,rfl,rfl,hS⟩
   have h:=c11
   clear c11
   try dsimp only
   obtain ⟨t16,ht16,h⟩:=bnd h
   obtain ⟨z19,rfl,q20x,ga,q20r⟩:=atF ht16
   refine idy_s ((Ent.sl mp0).now (fun _ h=>h) hS) q20x ga q20r ?_
   obtain ⟨t17,ht17,h⟩:=bnd h
   obtain rfl:=setF ht17
   refine sto_s hS rfl q20r ?_;intro w hS
   obtain rfl:=some_inj h
   exact hX _ rfl _ _ ⟨_,_,rfl,rfl,hS⟩
  obtain rfl:=some_inj h
  have h:=congrArg some (hO _ rfl)
  obtain rfl:=some_inj h
  exact hJ5 _ _ ⟨_,rfl,rfl,(hS.pick (A:=[_,_]) [0] rfl)⟩
 clear h5 hS
 rintro s w ⟨jd,rfl,rfl,hS⟩
 have h:=c5
 clear c5
 try dsimp only
 cases some_inj h
 exact hK _ _ _ _ _ rfl hS
theorem wk_r13_zero {qa qc qd qf qx qe qb qg qq u0} (hS:Ho w0 w L) (qm:EF L qx qc qd qf) (qp:EF L qq qe qb qg) (h:T_r13_zero qa (List.map nf qx) (List.map nf qq)=some u0) (hK:∀ w1,Ho w0 w1 L→K (.bool u0) w1):CallsX P N.f_r13_zero #[.agg #[.int .i64 qa,.slice qc qd qf,.slice qe qb qg]] w K:=by
 refine H.r13_zero qa qc qd qf qe qb qg w _ ?_
 unfold S_r13_zero
 unfold T_r13_zero at h
 try dsimp only
 refine newM_s hS ?_;intro r1 w hS
 obtain ⟨o2,h2,c2⟩:=bnd h
 refine cutM_i (fun s w =>  .inl ()=o2∧s=(())∧Ho w0 w L) (fun J2 hJ2=>?_) ?_
 ·
  have h:=h2
  clear h2
  refine iter_sim (fun s w t=>∃ (t1:Int),t1=t∧s=(t1,())∧Ho w0 w ((cl r1 [.int .i64 qa,.slice qc qd qf,.slice qe qb qg] N.t_Factor)::L)) ?_ h ⟨_,rfl,rfl,hS⟩
  clear h hS
  rintro s w t X q ⟨t1,rfl,rfl,hS⟩ h hX hO
  unfold T_r13_zero_b2 at h
  try dsimp only
  refine ⟨_,_,_,hS.cel mp0 rfl,?_⟩
  obtain ⟨t2,ht2,h⟩:=bnd h
  obtain rfl:=lenF ht2 ((qp.mono tl1).now (fun _ h=>h) hS)
  refine cond_s h ?_ ?_<;>intro hc h
  ·
   refine ⟨_,_,_,hS.cel mp0 rfl,?_⟩
   obtain ⟨t3,ht3,h⟩:=bnd h
   obtain ⟨z3,rfl,q4x,yv,q4r⟩:=atF ht3
   refine idx_s ((qp.mono tl1).now (fun _ h=>h) hS) q4x yv q4r ?_;intro b5 hb5
   refine ⟨_,rd_get ((qp.mono tl1).now (fun _ h=>h) hS) hb5 q4x,?_⟩
   obtain ⟨t4,ht4,h⟩:=bnd h
   obtain rfl:=feq_s ht4
   refine cond_s h ?_ ?_<;>intro hc h
   ·
    obtain rfl:=some_inj h
    have h:=congrArg some (hO _ rfl)
    obtain rfl:=some_inj h
    have h:=c2
    cases some_inj h
    exact hK _ (hS.pick (A:=[_]) [] rfl)
   obtain rfl:=some_inj h
   exact hX _ rfl _ _ ⟨_,rfl,rfl,hS⟩
  obtain rfl:=some_inj h
  have h:=congrArg some (hO _ rfl)
  obtain rfl:=some_inj h
  exact hJ2 _ _ ⟨rfl,rfl,(hS.pick (A:=[_]) [] rfl)⟩
 clear h2 hS
 rintro s w ⟨rfl,rfl,hS⟩
 have h:=c2
 clear c2
 try dsimp only
 cases some_inj h
 exact hK _ hS
theorem wk_r13_Back {qa qc qd qf qx qe qb qg qq q1 qo qu vm u0 u1} (hS:Ho w0 w L) (qm:EF L qx qc qd qf) (qp:EF L qq qe qb qg) (qz:EF L vm q1 qo qu) (h:T_r13_Back qa (List.map nf qx) (List.map nf qq) (List.map nf vm)=some (u0,u1)) (hK:∀ (a0:OA) (n0 c0:Nat) (rws0:List Nat) (w1:World),List.map nf rws0=u0→Ho w0 w1 ((sl a0 n0 c0 (List.map (Value.float .f64) rws0) N.t_float64)::L)→K (.tuple #[.slice a0 n0 c0,.int .i64 u1]) w1):CallsX P N.f_r13_Back #[.agg #[.int .i64 qa,.slice qc qd qf,.slice qe qb qg],.slice q1 qo qu] w K:=by
 refine H.r13_Back qa qc qd qf qe qb qg q1 qo qu w _ ?_
 unfold S_r13_Back
 unfold T_r13_Back at h
 try dsimp only
 refine newM_s hS ?_;intro r1 w hS
 obtain ⟨o2,h2,c2⟩:=bnd h
 refine cutM_i (fun s w=>∃ (t1:Bool),t1=o2∧s=(t1,())∧Ho w0 w ((cl r1 [.int .i64 qa,.slice qc qd qf,.slice qe qb qg] N.t_Factor)::L)) (fun J2 hJ2=>?_) ?_
 ·
  have h:=h2
  clear h2
  refine ⟨_,hS.cel mp0 rfl,_,_,_,hS.cel mp0 rfl,_,_,_,hS.cel mp0 rfl,?_⟩
  obtain ⟨t2,ht2,h⟩:=bnd h
  refine wk_r13_Right H hS (qm.mono tl1) (qp.mono tl1) ht2 ?_;rintro w hS
  refine ⟨_,rfl,?_⟩
  refine cond_s h ?_ ?_<;>intro hc h
  ·
   obtain ⟨t3,ht3,h⟩:=bnd h
   obtain rfl:=lenF ht3 ((qz.mono tl1).now (fun _ h=>h) hS)
   refine ⟨_,hS.cel mp0 rfl,?_⟩
   exact hJ2 _ _ ⟨_,some_inj h,rfl,hS⟩
  exact hJ2 _ _ ⟨_,some_inj h,rfl,hS⟩
 clear h2 hS
 rintro s w ⟨t1,rfl,rfl,hS⟩
 have h:=c2
 clear c2
 try dsimp only
 refine cond_s h ?_ ?_<;>intro hc h
 ·
  replace hS:=hS.none (α:=Nat) (enc:=(Value.float .f64)) (t:=N.t_float64)
  cases some_inj h
  exact hK _ _ _ _ _ rfl (hS.pick (A:=[_,_]) [0] rfl)
 refine ⟨_,hS.cel mp0 rfl,_,_,_,hS.cel mp0 rfl,_,_,_,hS.cel mp0 rfl,?_⟩
 obtain ⟨t4,ht4,h⟩:=bnd h
 refine wk_r13_zero H hS (qm.mono tl1) (qp.mono tl1) ht4 ?_;rintro w hS
 refine ⟨_,rfl,?_⟩
 refine cond_s h ?_ ?_<;>intro hc h
 ·
  replace hS:=hS.none (α:=Nat) (enc:=(Value.float .f64)) (t:=N.t_float64)
  cases some_inj h
  exact hK _ _ _ _ _ rfl (hS.pick (A:=[_,_]) [0] rfl)
 refine ⟨_,hS.cel mp0 rfl,?_⟩
 obtain ⟨t5,ht5,h⟩:=bnd h
 obtain ⟨rfl,kt5⟩:=mkF ht5
 refine mk_s (enc:=(Value.float .f64)) hS kt5 rfl ?_;clear hS kt5;intro r3 w hS
 refine ⟨_,hS.cel mp1 rfl,?_⟩
 obtain ⟨o5,h5,c5⟩:=bnd h
 refine cutM_i (fun s w=>∃ (jd:List Nat),(List.map nf jd)=o5∧s=(())∧Ho w0 w ((sl (some ⟨r3,0,none⟩) ((qa).toNat) ((qa).toNat) (List.map (Value.float .f64) jd) N.t_float64)::L)) (fun J5 hJ5=>?_) ?_
 ·
  have h:=h5
  clear h5
  refine iter_sim (fun s w t=>∃ (t7:Int) (yk:List Nat),(t7,(List.map nf yk))=t∧s=(t7,())∧Ho w0 w ((sl (some ⟨r3,0,none⟩) ((qa).toNat) ((qa).toNat) (List.map (Value.float .f64) yk) N.t_float64)::(cl r1 [.int .i64 qa,.slice qc qd qf,.slice qe qb qg] N.t_Factor)::L)) ?_ h ⟨_,_,rfl,rfl,hS⟩
  clear h hS
  rintro s w t X q ⟨t7,yk,rfl,rfl,hS⟩ h hX hO
  unfold T_r13_Back_b7 at h
  try dsimp only
  refine cond_s h ?_ ?_<;>intro hc h
  ·
   obtain ⟨t9,ht9,h⟩:=bnd h
   obtain ⟨z7,rfl,q8x,yj,q8r⟩:=atF ht9
   refine idx_s ((qz.mono tl2).now (fun _ h=>h) hS) q8x yj q8r ?_;intro b9 hb9
   refine ⟨_,rd_get ((qz.mono tl2).now (fun _ h=>h) hS) hb9 q8x,?_⟩
   refine ⟨_,_,_,hS.cel mp1 rfl,?_⟩
   obtain ⟨t10,ht10,h⟩:=bnd h
   obtain ⟨z10,rfl,q11x,yr,q11r⟩:=atF ht10
   refine idx_s ((qp.mono tl2).now (fun _ h=>h) hS) q11x yr q11r ?_;intro b12 hb12
   refine ⟨_,rd_get ((qp.mono tl2).now (fun _ h=>h) hS) hb12 q11x,?_⟩
   obtain ⟨t11,ht11,h⟩:=bnd h
   refine fdiv_s ht11 hS ?_;clear ht11;rintro z13 _ rfl _
   refine drM_s hS ?_;intro w hS
   obtain ⟨o15,h15,c15⟩:=bnd h
   refine cutM_i (fun s w=>∃ (z14:Nat),(nf z14)=o15∧s=(z14,())∧Ho w0 w ((sl (some ⟨r3,0,none⟩) ((qa).toNat) ((qa).toNat) (List.map (Value.float .f64) yk) N.t_float64)::(cl r1 [.int .i64 qa,.slice qc qd qf,.slice qe qb qg] N.t_Factor)::L)) (fun J15 hJ15=>?_) ?_
   ·
    have h:=h15
    clear h15
    refine iter_sim (fun s w t=>∃ (z16:Nat) (t14:Int),((nf z16),t14)=t∧s=(z16,t14,())∧Ho w0 w ((sl (some ⟨r3,0,none⟩) ((qa).toNat) ((qa).toNat) (List.map (Value.float .f64) yk) N.t_float64)::(cl r1 [.int .i64 qa,.slice qc qd qf,.slice qe qb qg] N.t_Factor)::L)) ?_ h ⟨_,_,rfl,rfl,hS⟩
    clear h hS
    rintro s w t X q ⟨z16,t14,rfl,rfl,hS⟩ h hX hO
    unfold T_r13_Back_b9 at h
    try dsimp only
    refine ⟨_,hS.cel mp1 rfl,?_⟩
    refine cond_s h ?_ ?_<;>intro hc h
    ·
     refine ⟨_,hS.cel mp1 rfl,_,_,_,hS.cel mp1 rfl,_,_,_,hS.cel mp1 rfl,?_⟩
     obtain ⟨t15,ht15,h⟩:=bnd h
     obtain ⟨z17,rfl,q18x,gc,q18r⟩:=atF ht15
     refine idy_s ((Ent.sl mp0).now (fun _ h=>h) hS) q18x gc q18r ?_
     refine ⟨_,rd_get ((Ent.sl mp0).now (fun _ h=>h) hS) rfl q18x,?_⟩
     refine drM_s hS ?_;intro w hS
     obtain ⟨t16,ht16,h⟩:=bnd h
     refine wk_r13_at H hS (qm.mono tl2) (qp.mono tl2) ht16 ?_;rintro z20 w rfl hS
     refine ⟨_,rfl,?_⟩
     refine ⟨rd_get ((Ent.sl mp0).now (fun _ h=>h) hS) rfl q18x,?_⟩
     obtain ⟨t17,ht17,h⟩:=bnd h
     refine fmul_s ht17 hS ?_;clear ht17;rintro z21 _ rfl _
     refine drM_s hS ?_;intro w hS
     obtain ⟨t18,ht18,h⟩:=bnd h
     refine fsub_s ht18 hS ?_;rintro z22 w rfl hS
     obtain rfl:=some_inj h
     exact hX _ rfl _ _ ⟨_,_,rfl,rfl,hS⟩
    obtain rfl:=some_inj h
    have h:=congrArg some (hO _ rfl)
    exact hJ15 _ _ ⟨_,some_inj h,rfl,hS⟩
   clear h15 hS
   rintro s w ⟨z14,rfl,rfl,hS⟩
   have h:=c15
   clear c15
   try dsimp only
   obtain ⟨t19,ht19,h⟩:=bnd h
   obtain ⟨z23,rfl,q24x,zg,q24r⟩:=atF ht19
   refine idy_s ((Ent.sl mp0).now (fun _ h=>h) hS) q24x zg q24r ?_
   obtain ⟨t20,ht20,h⟩:=bnd h
   obtain rfl:=setF ht20
   refine sto_s hS rfl q24r ?_;intro w hS
   obtain rfl:=some_inj h
   exact hX _ rfl _ _ ⟨_,_,rfl,rfl,hS⟩
  obtain rfl:=some_inj h
  have h:=congrArg some (hO _ rfl)
  obtain rfl:=some_inj h
  exact hJ5 _ _ ⟨_,rfl,rfl,(hS.pick (A:=[_,_]) [0] rfl)⟩
 clear h5 hS
 rintro s w ⟨jd,rfl,rfl,hS⟩
 have h:=c5
 clear c5
 try dsimp only
 cases some_inj h
 exact hK _ _ _ _ _ rfl hS
theorem wk_r13_Solve {qa qc qd qf qx qe qb qg qq q1 qo qu vm u0 u1} (hS:Ho w0 w L) (qm:EF L qx qc qd qf) (qp:EF L qq qe qb qg) (qz:EF L vm q1 qo qu) (h:T_r13_Solve qa (List.map nf qx) (List.map nf qq) (List.map nf vm)=some (u0,u1)) (hK:∀ (a0:OA) (n0 c0:Nat) (rws0:List Nat) (w1:World),List.map nf rws0=u0→Ho w0 w1 ((sl a0 n0 c0 (List.map (Value.float .f64) rws0) N.t_float64)::L)→K (.tuple #[.slice a0 n0 c0,.int .i64 u1]) w1):CallsX P N.f_r13_Solve #[.agg #[.int .i64 qa,.slice qc qd qf,.slice qe qb qg],.slice q1 qo qu] w K:=by
 refine H.r13_Solve qa qc qd qf qe qb qg q1 qo qu w _ ?_
 unfold S_r13_Solve
 unfold T_r13_Solve at h
 try dsimp only
 refine newM_s hS ?_;intro r1 w hS
 refine ⟨_,hS.cel mp0 rfl,_,_,_,hS.cel mp0 rfl,_,_,_,hS.cel mp0 rfl,?_⟩
 obtain ⟨⟨t1,t2⟩,ho1,h⟩:=bnd h
 refine wk_r13_Forward H hS (qm.mono tl1) (qp.mono tl1) (qz.mono tl1) ho1 ?_;clear hS ho1;rintro a2 m2 c2 vz w rfl hS
 refine ⟨_,_,_,_,rfl,?_⟩
 refine cond_s h ?_ ?_<;>intro hc h
 ·
  replace hS:=hS.none (α:=Nat) (enc:=(Value.float .f64)) (t:=N.t_float64)
  cases some_inj h
  exact hK _ _ _ _ _ rfl (hS.pick (A:=[_,_,_]) [0] rfl)
 refine ⟨_,hS.cel mp1 rfl,_,_,_,hS.cel mp1 rfl,_,_,_,hS.cel mp1 rfl,?_⟩
 obtain ⟨⟨t3,t4⟩,ho3,h⟩:=bnd h
 refine wk_r13_Back H hS (qm.mono tl2) (qp.mono tl2) (Ent.sl mp0) ho3 ?_;clear hS ho3;rintro a3 m3 c3 yu w rfl hS
 refine ⟨_,_,_,_,rfl,?_⟩
 cases some_inj h
 exact hK _ _ _ _ _ rfl (hS.pick (A:=[_,_,_]) [0] rfl)
theorem wk_r14_Step {qa qc qe qb qg qq ql qk qi qj vj qr qs qt vf q2 qy vg vz q3 vn yf yu u0 u1} (hS:Ho w0 w L) (qp:EF L qq qe qb qg) (qv:EF L vj qk qi qj) (vh:EF L vf qr qs qt) (ya:EF L vz q2 qy vg) (jl:EF L yu q3 vn yf) (h:T_r14_Step qa qc (List.map nf qq) ql (List.map nf vj) (List.map nf vf) (List.map nf vz) (List.map nf yu)=some (u0,u1)) (hK:∀ (a0:OA) (n0 c0:Nat) (rws0:List Nat) (w1:World),List.map nf rws0=u0→Ho w0 w1 ((sl a0 n0 c0 (List.map (Value.float .f64) rws0) N.t_float64)::L)→K (.tuple #[.slice a0 n0 c0,.int .i64 u1]) w1):CallsX P N.f_r14_Step #[.agg #[.int .i64 qa,.int .i64 qc,.slice qe qb qg],.agg #[.int .i64 ql,.slice qk qi qj,.slice qr qs qt],.slice q2 qy vg,.slice q3 vn yf] w K:=by
 refine H.r14_Step qa qc qe qb qg ql qk qi qj qr qs qt q2 qy vg q3 vn yf w _ ?_
 unfold S_r14_Step
 unfold T_r14_Step at h
 try dsimp only
 refine newM_s hS ?_;intro r1 w hS
 refine newM_s hS ?_;intro r2 w hS
 obtain ⟨o3,h3,c3⟩:=bnd h
 refine cutM_i (fun s w=>∃ (t1:Bool),t1=o3∧s=(t1,())∧Ho w0 w ((cl r2 [.int .i64 ql,.slice qk qi qj,.slice qr qs qt] N.t_Factor)::(cl r1 [.int .i64 qa,.int .i64 qc,.slice qe qb qg] N.t_Matrix)::L)) (fun J3 hJ3=>?_) ?_
 ·
  have h:=h3
  clear h3
  refine ⟨_,hS.cel mp1 rfl,_,hS.cel mp1 rfl,_,_,_,hS.cel mp1 rfl,?_⟩
  obtain ⟨t2,ht2,h⟩:=bnd h
  refine wk_r14_fit H hS (qp.mono tl2) (ya.mono tl2) (jl.mono tl2) ht2 ?_;rintro w hS
  refine ⟨_,rfl,?_⟩
  refine cond_s h ?_ ?_<;>intro hc h
  ·
   refine ⟨_,hS.cel mp1 rfl,_,hS.cel mp1 rfl,_,_,_,hS.cel mp1 rfl,_,hS.cel mp0 rfl,_,_,_,hS.cel mp0 rfl,_,_,_,hS.cel mp0 rfl,?_⟩
   obtain ⟨t3,ht3,h⟩:=bnd h
   refine wk_r14_fits H hS (qp.mono tl2) (qv.mono tl2) (vh.mono tl2) ht3 ?_;rintro w hS
   refine ⟨_,rfl,?_⟩
   exact hJ3 _ _ ⟨_,some_inj h,rfl,hS⟩
  exact hJ3 _ _ ⟨_,some_inj h,rfl,hS⟩
 clear h3 hS
 rintro s w ⟨t1,rfl,rfl,hS⟩
 have h:=c3
 clear c3
 try dsimp only
 refine cond_s h ?_ ?_<;>intro hc h
 ·
  replace hS:=hS.none (α:=Nat) (enc:=(Value.float .f64)) (t:=N.t_float64)
  cases some_inj h
  exact hK _ _ _ _ _ rfl (hS.pick (A:=[_,_,_]) [0] rfl)
 refine ⟨_,hS.cel mp1 rfl,_,hS.cel mp1 rfl,_,_,_,hS.cel mp1 rfl,?_⟩
 obtain ⟨⟨t4,t5⟩,ho4,h⟩:=bnd h
 refine wk_r14_Left H hS (qp.mono tl2) (ya.mono tl2) (jl.mono tl2) ho4 ?_;clear hS ho4;rintro a4 m4 c4 jd w rfl hS
 refine ⟨_,_,_,_,rfl,?_⟩
 refine cond_s h ?_ ?_<;>intro hc h
 ·
  replace hS:=hS.none (α:=Nat) (enc:=(Value.float .f64)) (t:=N.t_float64)
  cases some_inj h
  exact hK _ _ _ _ _ rfl (hS.pick (A:=[_,_,_,_]) [0] rfl)
 refine ⟨_,hS.cel mp1 rfl,_,_,_,hS.cel mp1 rfl,_,_,_,hS.cel mp1 rfl,?_⟩
 obtain ⟨⟨t6,t7⟩,ho6,h⟩:=bnd h
 refine wk_r13_Solve H hS (qv.mono tl3) (vh.mono tl3) (Ent.sl mp0) ho6 ?_;clear hS ho6;rintro a5 m5 c5 jn w rfl hS
 refine ⟨_,_,_,_,rfl,?_⟩
 refine cond_s h ?_ ?_<;>intro hc h
 ·
  replace hS:=hS.none (α:=Nat) (enc:=(Value.float .f64)) (t:=N.t_float64)
  cases some_inj h
  exact hK _ _ _ _ _ rfl (hS.pick (A:=[_,_,_,_,_]) [0] rfl)
 obtain ⟨o10,h10,c10⟩:=bnd h
 refine cutM_i (fun s w=>∃ (a6:OA) (m7:Nat) (c8:Nat) (zh:List Nat),(List.map nf zh)=o10∧s=((a6,m7,c8),())∧Ho w0 w ((sl a6 m7 c8 (List.map (Value.float .f64) zh) N.t_float64)::L)) (fun J10 hJ10=>?_) ?_
 ·
  have h:=h10
  clear h10
  replace hS:=hS.none (α:=Nat) (enc:=(Value.float .f64)) (t:=N.t_float64)
  refine iter_sim (fun s w t=>∃ (t9:Int) (a11:OA) (m12:Nat) (c13:Nat) (jq:List Nat),(t9,(List.map nf jq))=t∧s=((a11,m12,c13),t9,())∧Ho w0 w ((sl a5 m5 c5 (List.map (Value.float .f64) jn) N.t_float64)::(sl a11 m12 c13 (List.map (Value.float .f64) jq) N.t_float64)::L)) ?_ h ⟨_,_,_,_,_,rfl,rfl,(hS.pick (A:=[_,_,_,_,_]) [1,0] rfl)⟩
  clear h hS
  rintro s w t X q ⟨t9,a11,m12,c13,jq,rfl,rfl,hS⟩ h hX hO
  unfold T_r14_Step_b2 at h
  try dsimp only
  obtain ⟨t11,ht11,h⟩:=bnd h
  obtain rfl:=lenF ht11 ((ya.mono tl2).now (fun _ h=>h) hS)
  refine cond_s h ?_ ?_<;>intro hc h
  ·
   obtain ⟨t12,ht12,h⟩:=bnd h
   obtain ⟨z15,rfl,q16x,zi,q16r⟩:=atF ht12
   refine idx_s ((ya.mono tl2).now (fun _ h=>h) hS) q16x zi q16r ?_;intro b17 hb17
   refine ⟨_,rd_get ((ya.mono tl2).now (fun _ h=>h) hS) hb17 q16x,?_⟩
   obtain ⟨t13,ht13,h⟩:=bnd h
   obtain ⟨z18,rfl,q19x,jh,q19r⟩:=atF ht13
   refine idx_s ((Ent.sl mp0).now (fun _ h=>h) hS) q19x jh q19r ?_;intro b20 hb20
   refine ⟨_,rd_get ((Ent.sl mp0).now (fun _ h=>h) hS) hb20 q19x,?_⟩
   obtain ⟨t14,ht14,h⟩:=bnd h
   refine fadd_s ht14 hS ?_;clear ht14;rintro z21 _ rfl _
   refine drM_s hS ?_;intro w hS
   obtain ⟨t15,ht15,h⟩:=bnd h
   obtain rfl:(List.map nf ([z21]:List Nat))=t15:=some_inj ht15
   refine lit_s (ks:=[z21]) (enc:=(Value.float .f64)) (m:=1) hS rfl rfl ?_;intro r22 w hS
   refine drM_s hS ?_;intro w hS
   obtain ⟨t16,ht16,h⟩:=bnd h
   obtain ⟨rfl,kt16⟩:=appF ht16
   replace hS:=ro2 hS
   refine app_s hS kt16 ((Ent.sl mp1).now (fun _ h=>h) hS) (fun _=>rfl) rfl ?_;clear hS kt16;intro a23 c23 w hS
   refine drM_s hS ?_;intro w hS
   obtain rfl:=some_inj h
   exact hX _ rfl _ _ ⟨_,_,_,_,_,rfl,rfl,(hS.pick (A:=[_,_,_]) [2,0] rfl)⟩
  obtain rfl:=some_inj h
  have h:=congrArg some (hO _ rfl)
  obtain rfl:=some_inj h
  exact hJ10 _ _ ⟨_,_,_,_,rfl,rfl,(hS.pick (A:=[_,_]) [1] rfl)⟩
 clear h10 hS
 rintro s w ⟨a6,m7,c8,zh,rfl,rfl,hS⟩
 have h:=c10
 clear c10
 try dsimp only
 obtain ⟨t17,ht17,h⟩:=bnd h
 refine wk_r14_finite H hS (Ent.sl mp0) ht17 ?_;rintro w hS
 refine ⟨_,rfl,?_⟩
 refine cond_s h ?_ ?_<;>intro hc h
 ·
  replace hS:=hS.none (α:=Nat) (enc:=(Value.float .f64)) (t:=N.t_float64)
  cases some_inj h
  exact hK _ _ _ _ _ rfl (hS.pick (A:=[_,_]) [0] rfl)
 cases some_inj h
 exact hK _ _ _ _ _ rfl hS
theorem wk_k_SameFloat {q0 q1 u0} (hS:Ho w0 w L)  (hx:T_k_SameFloat (nf q0) (nf q1)=some u0) (hK:∀ w1,Ho w0 w1 L→K (.bool u0) w1):CallsX P N.f_k_SameFloat #[.float .f64 q0,.float .f64 q1] w K:=by
 unfold T_k_SameFloat at hx
 have hx:=some_inj hx
 subst hx
 refine (sameFloat_c H q0 q1 w).mono ?_
 rintro _ w1 ⟨rfl,h1⟩
 exact hK _ (hS.next h1)
theorem wk_k_SameReals {q0 qh qn vo q1 qo qu vm u0} (hS:Ho w0 w L) (qw:EF L vo q0 qh qn) (qz:EF L vm q1 qo qu) (h:T_k_SameReals (List.map nf vo) (List.map nf vm)=some u0) (hK:∀ w1,Ho w0 w1 L→K (.bool u0) w1):CallsX P N.f_k_SameReals #[.slice q0 qh qn,.slice q1 qo qu] w K:=by
 refine H.k_SameReals q0 qh qn q1 qo qu w _ ?_
 unfold S_k_SameReals
 unfold T_k_SameReals at h
 try dsimp only
 obtain ⟨t1,ht1,h⟩:=bnd h
 obtain rfl:=lenF ht1 (qw.now (fun _ h=>h) hS)
 obtain ⟨t2,ht2,h⟩:=bnd h
 obtain rfl:=lenF ht2 (qz.now (fun _ h=>h) hS)
 refine cond_s h ?_ ?_<;>intro hc h
 ·
  cases some_inj h
  exact hK _ hS
 obtain ⟨o1,h1,c1⟩:=bnd h
 refine cutM_i (fun s w =>  .inl ()=o1∧s=(())∧Ho w0 w L) (fun J1 hJ1=>?_) ?_
 ·
  have h:=h1
  clear h1
  refine iter_sim (fun s w t=>∃ (t3:Int),t3=t∧s=(t3,())∧Ho w0 w L) ?_ h ⟨_,rfl,rfl,hS⟩
  clear h hS
  rintro s w t X q ⟨t3,rfl,rfl,hS⟩ h hX hO
  unfold T_k_SameReals_b2 at h
  try dsimp only
  obtain ⟨t4,ht4,h⟩:=bnd h
  obtain rfl:=lenF ht4 (qw.now (fun _ h=>h) hS)
  refine cond_s h ?_ ?_<;>intro hc h
  ·
   obtain ⟨t5,ht5,h⟩:=bnd h
   obtain ⟨z2,rfl,q3x,vn,q3r⟩:=atF ht5
   refine idx_s (qw.now (fun _ h=>h) hS) q3x vn q3r ?_;intro b4 hb4
   refine ⟨_,rd_get (qw.now (fun _ h=>h) hS) hb4 q3x,?_⟩
   obtain ⟨t6,ht6,h⟩:=bnd h
   obtain ⟨z5,rfl,q6x,yi,q6r⟩:=atF ht6
   refine idx_s (qz.now (fun _ h=>h) hS) q6x yi q6r ?_;intro b7 hb7
   refine ⟨_,rd_get (qz.now (fun _ h=>h) hS) hb7 q6x,?_⟩
   refine drM_s hS ?_;intro w hS
   obtain ⟨t7,ht7,h⟩:=bnd h
   refine wk_k_SameFloat H hS  ht7 ?_;rintro w hS
   refine ⟨_,rfl,?_⟩
   refine drM_s hS ?_;intro w hS
   refine cond_s h ?_ ?_<;>intro hc h
   ·
    obtain rfl:=some_inj h
    have h:=congrArg some (hO _ rfl)
    obtain rfl:=some_inj h
    have h:=c1
    cases some_inj h
    exact hK _ hS
   obtain rfl:=some_inj h
   exact hX _ rfl _ _ ⟨_,rfl,rfl,hS⟩
  obtain rfl:=some_inj h
  have h:=congrArg some (hO _ rfl)
  exact hJ1 _ _ ⟨some_inj h,rfl,hS⟩
 clear h1 hS
 rintro s w ⟨rfl,rfl,hS⟩
 have h:=c1
 clear c1
 try dsimp only
 cases some_inj h
 exact hK _ hS
theorem wk_k_SameMatrix {qa qc qe qb qg qq ql qk qr qs qt vf u0} (hS:Ho w0 w L) (qp:EF L qq qe qb qg) (vh:EF L vf qr qs qt) (h:T_k_SameMatrix qa qc (List.map nf qq) ql qk (List.map nf vf)=some u0) (hK:∀ w1,Ho w0 w1 L→K (.bool u0) w1):CallsX P N.f_k_SameMatrix #[.agg #[.int .i64 qa,.int .i64 qc,.slice qe qb qg],.agg #[.int .i64 ql,.int .i64 qk,.slice qr qs qt]] w K:=by
 refine H.k_SameMatrix qa qc qe qb qg ql qk qr qs qt w _ ?_
 unfold S_k_SameMatrix
 unfold T_k_SameMatrix at h
 try dsimp only
 refine newM_s hS ?_;intro r1 w hS
 refine newM_s hS ?_;intro r2 w hS
 refine ⟨_,hS.cel mp1 rfl,_,hS.cel mp0 rfl,?_⟩
 refine cond_s h ?_ ?_<;>intro hc h
 ·
  refine ⟨_,hS.cel mp1 rfl,_,hS.cel mp0 rfl,?_⟩
  refine cond_s h ?_ ?_<;>intro hc h
  ·
   refine ⟨_,_,_,hS.cel mp1 rfl,_,_,_,hS.cel mp0 rfl,?_⟩
   obtain ⟨t1,ht1,h⟩:=bnd h
   refine wk_k_SameReals H hS (qp.mono tl2) (vh.mono tl2) ht1 ?_;rintro w hS
   refine ⟨_,rfl,?_⟩
   cases some_inj h
   exact hK _ (hS.pick (A:=[_,_]) [] rfl)
  cases some_inj h
  exact hK _ (hS.pick (A:=[_,_]) [] rfl)
 cases some_inj h
 exact hK _ (hS.pick (A:=[_,_]) [] rfl)
theorem wk_k_KeptReals {q0 qh q1 qo qu vm u0} (hS:Ho w0 w L) (qw:Ent L (rdA (List.map (Value.float .f64) (vm++marks)) q0 (qh+12) (qh+12))) (qz:EF L vm q1 qo qu) (hx:T_k_KeptReals (List.map nf vm) (List.map nf vm)=some u0) (hK:∀ w1,Ho w0 w1 L→K (.bool u0) w1):CallsX P N.f_k_KeptReals #[.slice q0 qh (qh+12),.slice q1 qo qu] w K:=by
 unfold T_k_KeptReals at hx
 have hd:(List.map nf vm).length≤4294967000:=by
  rcases Nat.lt_or_ge 4294967000 (List.map nf vm).length with h | h
  ·
   rw [decide_eq_false (by omega)] at hx;cases hx
  exact h
 rw [decide_eq_true hd] at hx
 have hx:=some_inj hx
 subst hx
 have r1:=(qz.now (fun _ h=>h) hS).reals
 have r0:=(qw.now (fun _ h=>h) hS).reals
 have e:qh=qo:=by have:=r1.len;have:=r0.len;simp [marks] at this;omega
 subst e
 refine (keptReals_c H r0 r1 (by have:=r1.len;simp at hd;omega)).mono ?_
 rintro _ w1 ⟨rfl,h1⟩
 exact hK _ (hS.next h1)
theorem wk_k_KeptMatrix {qa qc qe qb ql qk qr qs qt vf u0} (hS:Ho w0 w L) (qp:Ent L (rdA (List.map (Value.float .f64) (vf++marks)) qe (qb+12) (qb+12))) (vh:EF L vf qr qs qt) (h:T_k_KeptMatrix qa qc (List.map nf vf) ql qk (List.map nf vf)=some u0) (hK:∀ w1,Ho w0 w1 L→K (.bool u0) w1):CallsX P N.f_k_KeptMatrix #[.agg #[.int .i64 qa,.int .i64 qc,.slice qe qb (qb+12)],.agg #[.int .i64 ql,.int .i64 qk,.slice qr qs qt]] w K:=by
 refine H.k_KeptMatrix qa qc qe qb (qb+12) ql qk qr qs qt w _ ?_
 unfold S_k_KeptMatrix
 unfold T_k_KeptMatrix at h
 try dsimp only
 refine newM_s hS ?_;intro r1 w hS
 refine newM_s hS ?_;intro r2 w hS
 refine ⟨_,hS.cel mp1 rfl,_,hS.cel mp1 rfl,_,_,_,hS.cel mp1 rfl,_,hS.cel mp0 rfl,_,hS.cel mp0 rfl,_,_,_,hS.cel mp0 rfl,?_⟩
 obtain ⟨t1,ht1,h⟩:=bnd h
 refine wk_k_SameMatrix H hS (Ent.lent (qp.mono tl2) rfl rfl) (vh.mono tl2) ht1 ?_;rintro w hS
 refine ⟨_,rfl,?_⟩
 refine cond_s h ?_ ?_<;>intro hc h
 ·
  refine ⟨_,_,_,hS.cel mp1 rfl,_,_,_,hS.cel mp0 rfl,?_⟩
  obtain ⟨t2,ht2,h⟩:=bnd h
  refine wk_k_KeptReals H hS (qp.mono tl2) (vh.mono tl2) ht2 ?_;rintro w hS
  refine ⟨_,rfl,?_⟩
  cases some_inj h
  exact hK _ (hS.pick (A:=[_,_]) [] rfl)
 cases some_inj h
 exact hK _ (hS.pick (A:=[_,_]) [] rfl)
theorem wk_k_SameFactor {qa qc qd qf qx qe qb qg qq ql qk qi qj vj qr qs qt vf u0} (hS:Ho w0 w L) (qm:EF L qx qc qd qf) (qp:EF L qq qe qb qg) (qv:EF L vj qk qi qj) (vh:EF L vf qr qs qt) (h:T_k_SameFactor qa (List.map nf qx) (List.map nf qq) ql (List.map nf vj) (List.map nf vf)=some u0) (hK:∀ w1,Ho w0 w1 L→K (.bool u0) w1):CallsX P N.f_k_SameFactor #[.agg #[.int .i64 qa,.slice qc qd qf,.slice qe qb qg],.agg #[.int .i64 ql,.slice qk qi qj,.slice qr qs qt]] w K:=by
 refine H.k_SameFactor qa qc qd qf qe qb qg ql qk qi qj qr qs qt w _ ?_
 unfold S_k_SameFactor
 unfold T_k_SameFactor at h
 try dsimp only
 refine newM_s hS ?_;intro r1 w hS
 refine newM_s hS ?_;intro r2 w hS
 refine ⟨_,hS.cel mp1 rfl,_,hS.cel mp0 rfl,?_⟩
 refine cond_s h ?_ ?_<;>intro hc h
 ·
  refine ⟨_,_,_,hS.cel mp1 rfl,_,_,_,hS.cel mp0 rfl,?_⟩
  obtain ⟨t1,ht1,h⟩:=bnd h
  refine wk_k_SameReals H hS (qm.mono tl2) (qv.mono tl2) ht1 ?_;rintro w hS
  refine ⟨_,rfl,?_⟩
  refine cond_s h ?_ ?_<;>intro hc h
  ·
   refine ⟨_,_,_,hS.cel mp1 rfl,_,_,_,hS.cel mp0 rfl,?_⟩
   obtain ⟨t2,ht2,h⟩:=bnd h
   refine wk_k_SameReals H hS (qp.mono tl2) (vh.mono tl2) ht2 ?_;rintro w hS
   refine ⟨_,rfl,?_⟩
   cases some_inj h
   exact hK _ (hS.pick (A:=[_,_]) [] rfl)
  cases some_inj h
  exact hK _ (hS.pick (A:=[_,_]) [] rfl)
 cases some_inj h
 exact hK _ (hS.pick (A:=[_,_]) [] rfl)
theorem wk_k_KeptFactor {qa qc qd qe qb ql qk qi qj vj qr qs qt vf u0} (hS:Ho w0 w L) (qm:Ent L (rdA (List.map (Value.float .f64) (vj++marks)) qc (qd+12) (qd+12))) (qp:Ent L (rdA (List.map (Value.float .f64) (vf++marks)) qe (qb+12) (qb+12))) (qv:EF L vj qk qi qj) (vh:EF L vf qr qs qt) (h:T_k_KeptFactor qa (List.map nf vj) (List.map nf vf) ql (List.map nf vj) (List.map nf vf)=some u0) (hK:∀ w1,Ho w0 w1 L→K (.bool u0) w1):CallsX P N.f_k_KeptFactor #[.agg #[.int .i64 qa,.slice qc qd (qd+12),.slice qe qb (qb+12)],.agg #[.int .i64 ql,.slice qk qi qj,.slice qr qs qt]] w K:=by
 refine H.k_KeptFactor qa qc qd (qd+12) qe qb (qb+12) ql qk qi qj qr qs qt w _ ?_
 unfold S_k_KeptFactor
 unfold T_k_KeptFactor at h
 try dsimp only
 refine newM_s hS ?_;intro r1 w hS
 refine newM_s hS ?_;intro r2 w hS
 refine ⟨_,hS.cel mp1 rfl,_,_,_,hS.cel mp1 rfl,_,_,_,hS.cel mp1 rfl,_,hS.cel mp0 rfl,_,_,_,hS.cel mp0 rfl,_,_,_,hS.cel mp0 rfl,?_⟩
 obtain ⟨t1,ht1,h⟩:=bnd h
 refine wk_k_SameFactor H hS (Ent.lent (qm.mono tl2) rfl rfl) (Ent.lent (qp.mono tl2) rfl rfl) (qv.mono tl2) (vh.mono tl2) ht1 ?_;rintro w hS
 refine ⟨_,rfl,?_⟩
 refine cond_s h ?_ ?_<;>intro hc h
 ·
  refine ⟨_,_,_,hS.cel mp1 rfl,_,_,_,hS.cel mp0 rfl,?_⟩
  obtain ⟨t2,ht2,h⟩:=bnd h
  refine wk_k_KeptReals H hS (qm.mono tl2) (qv.mono tl2) ht2 ?_;rintro w hS
  refine ⟨_,rfl,?_⟩
  refine cond_s h ?_ ?_<;>intro hc h
  ·
   refine ⟨_,_,_,hS.cel mp1 rfl,_,_,_,hS.cel mp0 rfl,?_⟩
   obtain ⟨t3,ht3,h⟩:=bnd h
   refine wk_k_KeptReals H hS (qp.mono tl2) (vh.mono tl2) ht3 ?_;rintro w hS
   refine ⟨_,rfl,?_⟩
   cases some_inj h
   exact hK _ (hS.pick (A:=[_,_]) [] rfl)
  cases some_inj h
  exact hK _ (hS.pick (A:=[_,_]) [] rfl)
 cases some_inj h
 exact hK _ (hS.pick (A:=[_,_]) [] rfl)
theorem wk_w14_RefineSteps {qa qc qe qb qg qq ym yn vp yb yz yo vq yc ja yp vr yd jb yq vt ye jc u0} (hS:Ho w0 w L) (qp:EF L qq qe qb qg) (vw:EF L yz yn vp yb) (vx:EF L ja yo vq yc) (vk:EF L jb yp vr yd) (ve:EF L jc yq vt ye) (hG:Ent L (tab64 N.g_1)) (h:T_w14_RefineSteps qa qc (List.map nf qq) ym (List.map nf yz) (List.map nf ja) (List.map nf jb) (List.map nf jc)=some u0) (hK:∀ w1,Ho w0 w1 L→K (.bool u0) w1):CallsX P N.f_w14_RefineSteps #[.agg #[.int .i64 qa,.int .i64 qc,.slice qe qb qg,.int .i64 ym,.slice yn vp yb,.slice yo vq yc,.slice yp vr yd,.slice yq vt ye]] w K:=by
 refine H.w14_RefineSteps qa qc qe qb qg ym yn vp yb yo vq yc yp vr yd yq vt ye w _ ?_
 unfold S_w14_RefineSteps
 unfold T_w14_RefineSteps at h
 try dsimp only
 refine newM_s hS ?_;intro r1 w hS
 obtain ⟨t1,ht1,h⟩:=bnd h
 refine wk_w14_awake H hS (hG.mono tl1) ht1 ?_;rintro w hS
 refine ⟨_,rfl,?_⟩
 refine cond_s h ?_ ?_<;>intro hc h
 ·
  cases some_inj h
  exact hK _ (hS.pick (A:=[_]) [] rfl)
 obtain ⟨o2,h2,c2⟩:=bnd h
 refine cutM_i (fun s w=>∃ (t2:Bool),t2=o2∧s=(t2,())∧Ho w0 w ((cl r1 [.int .i64 qa,.int .i64 qc,.slice qe qb qg,.int .i64 ym,.slice yn vp yb,.slice yo vq yc,.slice yp vr yd,.slice yq vt ye] N.t_w14_Case)::L)) (fun J2 hJ2=>?_) ?_
 ·
  have h:=h2
  clear h2
  refine ⟨_,hS.cel mp0 rfl,_,hS.cel mp0 rfl,_,_,_,hS.cel mp0 rfl,?_⟩
  obtain ⟨t3,ht3,h⟩:=bnd h
  refine wk_w14_great H hS (qp.mono tl1) ht3 ?_;rintro w hS
  refine ⟨_,rfl,?_⟩
  refine cond_s h ?_ ?_<;>intro hc h
  ·
   refine ⟨_,_,_,hS.cel mp0 rfl,?_⟩
   obtain ⟨t4,ht4,h⟩:=bnd h
   obtain rfl:=lenF ht4 ((vk.mono tl1).now (fun _ h=>h) hS)
   refine cond_s h ?_ ?_<;>intro hc h
   ·
    refine ⟨_,_,_,hS.cel mp0 rfl,?_⟩
    obtain ⟨t5,ht5,h⟩:=bnd h
    obtain rfl:=lenF ht5 ((ve.mono tl1).now (fun _ h=>h) hS)
    exact hJ2 _ _ ⟨_,some_inj h,rfl,hS⟩
   exact hJ2 _ _ ⟨_,some_inj h,rfl,hS⟩
  exact hJ2 _ _ ⟨_,some_inj h,rfl,hS⟩
 clear h2 hS
 rintro s w ⟨t2,rfl,rfl,hS⟩
 have h:=c2
 clear c2
 try dsimp only
 refine cond_s h ?_ ?_<;>intro hc h
 ·
  cases some_inj h
  exact hK _ (hS.pick (A:=[_]) [] rfl)
 obtain ⟨o10,h10,c10⟩:=bnd h
 refine cutM_i (fun s w=>∃ (r3:Nat) (t6:Int) (r4:Nat) (t7:Int) (t8:Int) (r5:Nat) (r6:Nat) (r7:Nat) (r8:Nat) (r9:Nat),(t6,t7,t8,(List.map nf jb),(List.map nf jc),(List.map nf yz),(List.map nf ja),(List.map nf qq))=o10∧s=((some ⟨r4,0,none⟩),(some ⟨r3,0,none⟩),((some ⟨r6,0,none⟩),vr,(vr+12)),((some ⟨r5,0,none⟩),vt,(vt+12)),())∧Ho w0 w ((cl r3 [.int .i64 t6,.slice (some ⟨r7,0,none⟩) vp (vp+12),.slice (some ⟨r8,0,none⟩) vq (vq+12)] N.t_Factor)::(cl r4 [.int .i64 t7,.int .i64 t8,.slice (some ⟨r9,0,none⟩) qb (qb+12)] N.t_Matrix)::(sl (some ⟨r5,0,none⟩) (vt+12) (vt+12) (List.map (Value.float .f64) (jc++marks)) N.t_float64)::(sl (some ⟨r6,0,none⟩) (vr+12) (vr+12) (List.map (Value.float .f64) (jb++marks)) N.t_float64)::(sl (some ⟨r7,0,none⟩) (vp+12) (vp+12) (List.map (Value.float .f64) (yz++marks)) N.t_float64)::(sl (some ⟨r8,0,none⟩) (vq+12) (vq+12) (List.map (Value.float .f64) (ja++marks)) N.t_float64)::(sl (some ⟨r9,0,none⟩) (qb+12) (qb+12) (List.map (Value.float .f64) (qq++marks)) N.t_float64)::(cl r1 [.int .i64 qa,.int .i64 qc,.slice qe qb qg,.int .i64 ym,.slice yn vp yb,.slice yo vq yc,.slice yp vr yd,.slice yq vt ye] N.t_w14_Case)::L)) (fun J10 hJ10=>?_) ?_
 ·
  have h:=h10
  clear h10
  refine ⟨_,hS.cel mp0 rfl,_,hS.cel mp0 rfl,_,_,_,hS.cel mp0 rfl,_,hS.cel mp0 rfl,_,_,_,hS.cel mp0 rfl,_,_,_,hS.cel mp0 rfl,_,_,_,hS.cel mp0 rfl,_,_,_,hS.cel mp0 rfl,?_⟩
  refine ⟨?_,?_,?_⟩
  ·
   refine drM_s hS ?_;intro w hS
   obtain ⟨⟨t14,t15,t16⟩,ho14,h⟩:=bnd h
   refine wk_k_LentMatrix H hS (qp.mono tl1) ho14 ?_;clear hS ho14;rintro r11 w rfl hS
   refine ⟨_,_,_,_,_,rfl,?_⟩
   refine ⟨(hS.cel mp1 rfl),?_⟩
   refine ⟨(hS.cel mp1 rfl),?_⟩
   refine ⟨(hS.cel mp1 rfl),?_⟩
   refine ⟨(hS.cel mp1 rfl),?_⟩
   refine ⟨(hS.cel mp1 rfl),?_⟩
   refine ⟨?_,?_,?_⟩
   ·
    refine drM_s hS ?_;intro w hS
    obtain ⟨⟨t17,t18,t19⟩,ho17,h⟩:=bnd h
    refine wk_k_LentFactor H hS (vw.mono tl2) (vx.mono tl2) ho17 ?_;clear hS ho17;rintro r12 r13 w rfl rfl hS
    refine ⟨_,_,_,_,_,_,_,rfl,?_⟩
    refine ⟨(hS.cel mp3 rfl),?_⟩
    refine ⟨(hS.cel mp3 rfl),?_⟩
    refine ⟨?_,?_,?_⟩
    ·
     refine drM_s hS ?_;intro w hS
     obtain ⟨t20,ht20,h⟩:=bnd h
     refine wk_k_LentReals H hS (vk.mono tl4) ht20 ?_;rintro r14 w rfl hS
     refine ⟨_,_,_,rfl,?_⟩
     refine ⟨(hS.cel mp4 rfl),?_⟩
     refine ⟨?_,?_,?_⟩
     ·
      refine drM_s hS ?_;intro w hS
      obtain ⟨t21,ht21,h⟩:=bnd h
      refine wk_k_LentReals H hS (ve.mono tl5) ht21 ?_;rintro r15 w rfl hS
      refine ⟨_,_,_,rfl,?_⟩
      refine ⟨?_,?_⟩
      ·
       refine drM_s hS ?_;intro w hS
       refine newM_s hS ?_;intro r16 w hS
       refine drM_s hS ?_;intro w hS
       refine newM_s hS ?_;intro r17 w hS
       refine drM_s hS ?_;intro w hS
       replace hS:=ro1 hS
       refine stc_s hS rfl rfl ?_;intro w hS
       refine stc_s hS rfl rfl ?_;intro w hS
       refine stc_s hS rfl rfl ?_;intro w hS
       refine drM_s hS ?_;intro w hS
       replace hS:=ro1 hS
       refine stc_s hS rfl rfl ?_;intro w hS
       refine stc_s hS rfl rfl ?_;intro w hS
       refine stc_s hS rfl rfl ?_;intro w hS
       refine drM_s hS ?_;intro w hS
       exact hJ10 _ _ ⟨_,_,_,_,_,_,_,_,_,_,some_inj h,rfl,hS⟩
      refine drM_s hS ?_;intro w hS
      refine newM_s hS ?_;intro r18 w hS
      refine drM_s hS ?_;intro w hS
      refine newM_s hS ?_;intro r19 w hS
      refine drM_s hS ?_;intro w hS
      refine stc_s hS rfl rfl ?_;intro w hS
      refine stc_s hS rfl rfl ?_;intro w hS
      refine stc_s hS rfl rfl ?_;intro w hS
      refine drM_s hS ?_;intro w hS
      replace hS:=ro1 hS
      refine stc_s hS rfl rfl ?_;intro w hS
      refine stc_s hS rfl rfl ?_;intro w hS
      refine stc_s hS rfl rfl ?_;intro w hS
      refine drM_s hS ?_;intro w hS
      exact hJ10 _ _ ⟨_,_,_,_,_,_,_,_,_,_,some_inj h,rfl,hS⟩
     ·
      refine drM_s hS ?_;intro w hS
      refine newM_s hS ?_;intro r20 w hS
      refine ⟨(hS.cel mp5 rfl),?_⟩
      refine ⟨?_,?_⟩
      ·
       refine drM_s hS ?_;intro w hS
       obtain ⟨t21,ht21,h⟩:=bnd h
       refine wk_k_LentReals H hS (ve.mono tl6) ht21 ?_;rintro r21 w rfl hS
       refine ⟨_,_,_,rfl,?_⟩
       refine drM_s hS ?_;intro w hS
       refine newM_s hS ?_;intro r22 w hS
       refine drM_s hS ?_;intro w hS
       replace hS:=ro2 hS
       refine stc_s hS rfl rfl ?_;intro w hS
       refine stc_s hS rfl rfl ?_;intro w hS
       refine stc_s hS rfl rfl ?_;intro w hS
       refine drM_s hS ?_;intro w hS
       replace hS:=ro1 hS
       refine stc_s hS rfl rfl ?_;intro w hS
       refine stc_s hS rfl rfl ?_;intro w hS
       refine stc_s hS rfl rfl ?_;intro w hS
       refine drM_s hS ?_;intro w hS
       exact hJ10 _ _ ⟨_,_,_,_,_,_,_,_,_,_,some_inj h,rfl,hS⟩
      refine drM_s hS ?_;intro w hS
      refine newM_s hS ?_;intro r23 w hS
      refine ⟨(hS.cel mp6 rfl),?_⟩
      refine drM_s hS ?_;intro w hS
      obtain ⟨t21,ht21,h⟩:=bnd h
      refine wk_k_LentReals H hS (ve.mono tl7) ht21 ?_;rintro r24 w rfl hS
      refine ⟨_,_,_,rfl,?_⟩
      refine drM_s hS ?_;intro w hS
      replace hS:=ro2 hS
      refine stc_s hS rfl rfl ?_;intro w hS
      refine stc_s hS rfl rfl ?_;intro w hS
      refine stc_s hS rfl rfl ?_;intro w hS
      refine drM_s hS ?_;intro w hS
      replace hS:=ro2 hS
      refine stc_s hS rfl rfl ?_;intro w hS
      refine stc_s hS rfl rfl ?_;intro w hS
      refine stc_s hS rfl rfl ?_;intro w hS
      refine drM_s hS ?_;intro w hS
      exact hJ10 _ _ ⟨_,_,_,_,_,_,_,_,_,_,some_inj h,rfl,hS⟩
     refine drM_s hS ?_;intro w hS
     refine newM_s hS ?_;intro r25 w hS
     refine ⟨(hS.cel mp5 rfl),?_⟩
     refine ⟨?_,?_⟩
     ·
      refine drM_s hS ?_;intro w hS
      obtain ⟨t21,ht21,h⟩:=bnd h
      refine wk_k_LentReals H hS (ve.mono tl6) ht21 ?_;rintro r26 w rfl hS
      refine ⟨_,_,_,rfl,?_⟩
      refine drM_s hS ?_;intro w hS
      refine newM_s hS ?_;intro r27 w hS
      refine drM_s hS ?_;intro w hS
      refine stc_s hS rfl rfl ?_;intro w hS
      refine stc_s hS rfl rfl ?_;intro w hS
      refine stc_s hS rfl rfl ?_;intro w hS
      refine drM_s hS ?_;intro w hS
      replace hS:=ro2 hS
      refine stc_s hS rfl rfl ?_;intro w hS
      refine stc_s hS rfl rfl ?_;intro w hS
      refine stc_s hS rfl rfl ?_;intro w hS
      refine drM_s hS ?_;intro w hS
      exact hJ10 _ _ ⟨_,_,_,_,_,_,_,_,_,_,some_inj h,rfl,hS⟩
     refine drM_s hS ?_;intro w hS
     refine newM_s hS ?_;intro r28 w hS
     refine ⟨(hS.cel mp6 rfl),?_⟩
     refine drM_s hS ?_;intro w hS
     obtain ⟨t21,ht21,h⟩:=bnd h
     refine wk_k_LentReals H hS (ve.mono tl7) ht21 ?_;rintro r29 w rfl hS
     refine ⟨_,_,_,rfl,?_⟩
     refine drM_s hS ?_;intro w hS
     replace hS:=ro1 hS
     refine stc_s hS rfl rfl ?_;intro w hS
     refine stc_s hS rfl rfl ?_;intro w hS
     refine stc_s hS rfl rfl ?_;intro w hS
     refine drM_s hS ?_;intro w hS
     replace hS:=ro2 hS
     refine stc_s hS rfl rfl ?_;intro w hS
     refine stc_s hS rfl rfl ?_;intro w hS
     refine stc_s hS rfl rfl ?_;intro w hS
     refine drM_s hS ?_;intro w hS
     exact hJ10 _ _ ⟨_,_,_,_,_,_,_,_,_,_,some_inj h,rfl,hS⟩
    ·
     refine drM_s hS ?_;intro w hS
     refine newM_s hS ?_;intro r30 w hS
     refine ⟨(hS.cel mp4 rfl),?_⟩
     refine ⟨(hS.cel mp4 rfl),?_⟩
     refine ⟨?_,?_⟩
     ·
      refine drM_s hS ?_;intro w hS
      obtain ⟨t20,ht20,h⟩:=bnd h
      refine wk_k_LentReals H hS (vk.mono tl5) ht20 ?_;rintro r31 w rfl hS
      refine ⟨_,_,_,rfl,?_⟩
      refine ⟨(hS.cel mp5 rfl),?_⟩
      refine ⟨?_,?_⟩
      ·
       refine drM_s hS ?_;intro w hS
       obtain ⟨t21,ht21,h⟩:=bnd h
       refine wk_k_LentReals H hS (ve.mono tl6) ht21 ?_;rintro r32 w rfl hS
       refine ⟨_,_,_,rfl,?_⟩
       refine drM_s hS ?_;intro w hS
       refine newM_s hS ?_;intro r33 w hS
       refine drM_s hS ?_;intro w hS
       replace hS:=ro3 hS
       refine stc_s hS rfl rfl ?_;intro w hS
       refine stc_s hS rfl rfl ?_;intro w hS
       refine stc_s hS rfl rfl ?_;intro w hS
       refine drM_s hS ?_;intro w hS
       replace hS:=ro1 hS
       refine stc_s hS rfl rfl ?_;intro w hS
       refine stc_s hS rfl rfl ?_;intro w hS
       refine stc_s hS rfl rfl ?_;intro w hS
       refine drM_s hS ?_;intro w hS
       exact hJ10 _ _ ⟨_,_,_,_,_,_,_,_,_,_,some_inj h,rfl,hS⟩
      refine drM_s hS ?_;intro w hS
      refine newM_s hS ?_;intro r34 w hS
      refine ⟨(hS.cel mp6 rfl),?_⟩
      refine drM_s hS ?_;intro w hS
      obtain ⟨t21,ht21,h⟩:=bnd h
      refine wk_k_LentReals H hS (ve.mono tl7) ht21 ?_;rintro r35 w rfl hS
      refine ⟨_,_,_,rfl,?_⟩
      refine drM_s hS ?_;intro w hS
      replace hS:=ro3 hS
      refine stc_s hS rfl rfl ?_;intro w hS
      refine stc_s hS rfl rfl ?_;intro w hS
      refine stc_s hS rfl rfl ?_;intro w hS
      refine drM_s hS ?_;intro w hS
      replace hS:=ro2 hS
      refine stc_s hS rfl rfl ?_;intro w hS
      refine stc_s hS rfl rfl ?_;intro w hS
      refine stc_s hS rfl rfl ?_;intro w hS
      refine drM_s hS ?_;intro w hS
      exact hJ10 _ _ ⟨_,_,_,_,_,_,_,_,_,_,some_inj h,rfl,hS⟩
     refine drM_s hS ?_;intro w hS
     refine newM_s hS ?_;intro r36 w hS
     refine ⟨(hS.cel mp5 rfl),?_⟩
     refine ⟨(hS.cel mp5 rfl),?_⟩
     refine drM_s hS ?_;intro w hS
     obtain ⟨t20,ht20,h⟩:=bnd h
     refine wk_k_LentReals H hS (vk.mono tl6) ht20 ?_;rintro r37 w rfl hS
     refine ⟨_,_,_,rfl,?_⟩
     refine ⟨(hS.cel mp6 rfl),?_⟩
     refine drM_s hS ?_;intro w hS
     obtain ⟨t21,ht21,h⟩:=bnd h
     refine wk_k_LentReals H hS (ve.mono tl7) ht21 ?_;rintro r38 w rfl hS
     refine ⟨_,_,_,rfl,?_⟩
     refine drM_s hS ?_;intro w hS
     replace hS:=ro3 hS
     refine stc_s hS rfl rfl ?_;intro w hS
     refine stc_s hS rfl rfl ?_;intro w hS
     refine stc_s hS rfl rfl ?_;intro w hS
     refine drM_s hS ?_;intro w hS
     replace hS:=ro3 hS
     refine stc_s hS rfl rfl ?_;intro w hS
     refine stc_s hS rfl rfl ?_;intro w hS
     refine stc_s hS rfl rfl ?_;intro w hS
     refine drM_s hS ?_;intro w hS
     exact hJ10 _ _ ⟨_,_,_,_,_,_,_,_,_,_,some_inj h,rfl,hS⟩
    refine drM_s hS ?_;intro w hS
    refine newM_s hS ?_;intro r39 w hS
    refine ⟨(hS.cel mp4 rfl),?_⟩
    refine ⟨(hS.cel mp4 rfl),?_⟩
    refine ⟨?_,?_⟩
    ·
     refine drM_s hS ?_;intro w hS
     obtain ⟨t20,ht20,h⟩:=bnd h
     refine wk_k_LentReals H hS (vk.mono tl5) ht20 ?_;rintro r40 w rfl hS
     refine ⟨_,_,_,rfl,?_⟩
     refine ⟨(hS.cel mp5 rfl),?_⟩
     refine ⟨?_,?_⟩
     ·
      refine drM_s hS ?_;intro w hS
      obtain ⟨t21,ht21,h⟩:=bnd h
      refine wk_k_LentReals H hS (ve.mono tl6) ht21 ?_;rintro r41 w rfl hS
      refine ⟨_,_,_,rfl,?_⟩
      refine drM_s hS ?_;intro w hS
      refine newM_s hS ?_;intro r42 w hS
      refine drM_s hS ?_;intro w hS
      refine stc_s hS rfl rfl ?_;intro w hS
      refine stc_s hS rfl rfl ?_;intro w hS
      refine stc_s hS rfl rfl ?_;intro w hS
      refine drM_s hS ?_;intro w hS
      replace hS:=ro3 hS
      refine stc_s hS rfl rfl ?_;intro w hS
      refine stc_s hS rfl rfl ?_;intro w hS
      refine stc_s hS rfl rfl ?_;intro w hS
      refine drM_s hS ?_;intro w hS
      exact hJ10 _ _ ⟨_,_,_,_,_,_,_,_,_,_,some_inj h,rfl,hS⟩
     refine drM_s hS ?_;intro w hS
     refine newM_s hS ?_;intro r43 w hS
     refine ⟨(hS.cel mp6 rfl),?_⟩
     refine drM_s hS ?_;intro w hS
     obtain ⟨t21,ht21,h⟩:=bnd h
     refine wk_k_LentReals H hS (ve.mono tl7) ht21 ?_;rintro r44 w rfl hS
     refine ⟨_,_,_,rfl,?_⟩
     refine drM_s hS ?_;intro w hS
     replace hS:=ro1 hS
     refine stc_s hS rfl rfl ?_;intro w hS
     refine stc_s hS rfl rfl ?_;intro w hS
     refine stc_s hS rfl rfl ?_;intro w hS
     refine drM_s hS ?_;intro w hS
     replace hS:=ro3 hS
     refine stc_s hS rfl rfl ?_;intro w hS
     refine stc_s hS rfl rfl ?_;intro w hS
     refine stc_s hS rfl rfl ?_;intro w hS
     refine drM_s hS ?_;intro w hS
     exact hJ10 _ _ ⟨_,_,_,_,_,_,_,_,_,_,some_inj h,rfl,hS⟩
    refine drM_s hS ?_;intro w hS
    refine newM_s hS ?_;intro r45 w hS
    refine ⟨(hS.cel mp5 rfl),?_⟩
    refine ⟨(hS.cel mp5 rfl),?_⟩
    refine drM_s hS ?_;intro w hS
    obtain ⟨t20,ht20,h⟩:=bnd h
    refine wk_k_LentReals H hS (vk.mono tl6) ht20 ?_;rintro r46 w rfl hS
    refine ⟨_,_,_,rfl,?_⟩
    refine ⟨(hS.cel mp6 rfl),?_⟩
    refine drM_s hS ?_;intro w hS
    obtain ⟨t21,ht21,h⟩:=bnd h
    refine wk_k_LentReals H hS (ve.mono tl7) ht21 ?_;rintro r47 w rfl hS
    refine ⟨_,_,_,rfl,?_⟩
    refine drM_s hS ?_;intro w hS
    replace hS:=ro2 hS
    refine stc_s hS rfl rfl ?_;intro w hS
    refine stc_s hS rfl rfl ?_;intro w hS
    refine stc_s hS rfl rfl ?_;intro w hS
    refine drM_s hS ?_;intro w hS
    replace hS:=ro3 hS
    refine stc_s hS rfl rfl ?_;intro w hS
    refine stc_s hS rfl rfl ?_;intro w hS
    refine stc_s hS rfl rfl ?_;intro w hS
    refine drM_s hS ?_;intro w hS
    exact hJ10 _ _ ⟨_,_,_,_,_,_,_,_,_,_,some_inj h,rfl,hS⟩
   ·
    refine drM_s hS ?_;intro w hS
    refine newM_s hS ?_;intro r48 w hS
    refine ⟨(hS.cel mp2 rfl),?_⟩
    refine ⟨(hS.cel mp2 rfl),?_⟩
    refine ⟨(hS.cel mp2 rfl),?_⟩
    refine ⟨(hS.cel mp2 rfl),?_⟩
    refine ⟨(hS.cel mp2 rfl),?_⟩
    refine ⟨?_,?_⟩
    ·
     refine drM_s hS ?_;intro w hS
     obtain ⟨⟨t17,t18,t19⟩,ho17,h⟩:=bnd h
     refine wk_k_LentFactor H hS (vw.mono tl3) (vx.mono tl3) ho17 ?_;clear hS ho17;rintro r49 r50 w rfl rfl hS
     refine ⟨_,_,_,_,_,_,_,rfl,?_⟩
     refine ⟨(hS.cel mp4 rfl),?_⟩
     refine ⟨(hS.cel mp4 rfl),?_⟩
     refine ⟨?_,?_⟩
     ·
      refine drM_s hS ?_;intro w hS
      obtain ⟨t20,ht20,h⟩:=bnd h
      refine wk_k_LentReals H hS (vk.mono tl5) ht20 ?_;rintro r51 w rfl hS
      refine ⟨_,_,_,rfl,?_⟩
      refine ⟨(hS.cel mp5 rfl),?_⟩
      refine ⟨?_,?_⟩
      ·
       refine drM_s hS ?_;intro w hS
       obtain ⟨t21,ht21,h⟩:=bnd h
       refine wk_k_LentReals H hS (ve.mono tl6) ht21 ?_;rintro r52 w rfl hS
       refine ⟨_,_,_,rfl,?_⟩
       refine drM_s hS ?_;intro w hS
       refine newM_s hS ?_;intro r53 w hS
       refine drM_s hS ?_;intro w hS
       replace hS:=ro5 hS
       refine stc_s hS rfl rfl ?_;intro w hS
       refine stc_s hS rfl rfl ?_;intro w hS
       refine stc_s hS rfl rfl ?_;intro w hS
       refine drM_s hS ?_;intro w hS
       replace hS:=ro1 hS
       refine stc_s hS rfl rfl ?_;intro w hS
       refine stc_s hS rfl rfl ?_;intro w hS
       refine stc_s hS rfl rfl ?_;intro w hS
       refine drM_s hS ?_;intro w hS
       exact hJ10 _ _ ⟨_,_,_,_,_,_,_,_,_,_,some_inj h,rfl,hS⟩
      refine drM_s hS ?_;intro w hS
      refine newM_s hS ?_;intro r54 w hS
      refine ⟨(hS.cel mp6 rfl),?_⟩
      refine drM_s hS ?_;intro w hS
      obtain ⟨t21,ht21,h⟩:=bnd h
      refine wk_k_LentReals H hS (ve.mono tl7) ht21 ?_;rintro r55 w rfl hS
      refine ⟨_,_,_,rfl,?_⟩
      refine drM_s hS ?_;intro w hS
      replace hS:=ro5 hS
      refine stc_s hS rfl rfl ?_;intro w hS
      refine stc_s hS rfl rfl ?_;intro w hS
      refine stc_s hS rfl rfl ?_;intro w hS
      refine drM_s hS ?_;intro w hS
      replace hS:=ro2 hS
      refine stc_s hS rfl rfl ?_;intro w hS
      refine stc_s hS rfl rfl ?_;intro w hS
      refine stc_s hS rfl rfl ?_;intro w hS
      refine drM_s hS ?_;intro w hS
      exact hJ10 _ _ ⟨_,_,_,_,_,_,_,_,_,_,some_inj h,rfl,hS⟩
     refine drM_s hS ?_;intro w hS
     refine newM_s hS ?_;intro r56 w hS
     refine ⟨(hS.cel mp5 rfl),?_⟩
     refine ⟨(hS.cel mp5 rfl),?_⟩
     refine drM_s hS ?_;intro w hS
     obtain ⟨t20,ht20,h⟩:=bnd h
     refine wk_k_LentReals H hS (vk.mono tl6) ht20 ?_;rintro r57 w rfl hS
     refine ⟨_,_,_,rfl,?_⟩
     refine ⟨(hS.cel mp6 rfl),?_⟩
     refine drM_s hS ?_;intro w hS
     obtain ⟨t21,ht21,h⟩:=bnd h
     refine wk_k_LentReals H hS (ve.mono tl7) ht21 ?_;rintro r58 w rfl hS
     refine ⟨_,_,_,rfl,?_⟩
     refine drM_s hS ?_;intro w hS
     replace hS:=ro5 hS
     refine stc_s hS rfl rfl ?_;intro w hS
     refine stc_s hS rfl rfl ?_;intro w hS
     refine stc_s hS rfl rfl ?_;intro w hS
     refine drM_s hS ?_;intro w hS
     replace hS:=ro3 hS
     refine stc_s hS rfl rfl ?_;intro w hS
     refine stc_s hS rfl rfl ?_;intro w hS
     refine stc_s hS rfl rfl ?_;intro w hS
     refine drM_s hS ?_;intro w hS
     exact hJ10 _ _ ⟨_,_,_,_,_,_,_,_,_,_,some_inj h,rfl,hS⟩
    refine drM_s hS ?_;intro w hS
    refine newM_s hS ?_;intro r59 w hS
    refine ⟨(hS.cel mp3 rfl),?_⟩
    refine ⟨(hS.cel mp3 rfl),?_⟩
    refine ⟨(hS.cel mp3 rfl),?_⟩
    refine ⟨(hS.cel mp3 rfl),?_⟩
    refine ⟨(hS.cel mp3 rfl),?_⟩
    refine drM_s hS ?_;intro w hS
    obtain ⟨⟨t17,t18,t19⟩,ho17,h⟩:=bnd h
    refine wk_k_LentFactor H hS (vw.mono tl4) (vx.mono tl4) ho17 ?_;clear hS ho17;rintro r60 r61 w rfl rfl hS
    refine ⟨_,_,_,_,_,_,_,rfl,?_⟩
    refine ⟨(hS.cel mp5 rfl),?_⟩
    refine ⟨(hS.cel mp5 rfl),?_⟩
    refine drM_s hS ?_;intro w hS
    obtain ⟨t20,ht20,h⟩:=bnd h
    refine wk_k_LentReals H hS (vk.mono tl6) ht20 ?_;rintro r62 w rfl hS
    refine ⟨_,_,_,rfl,?_⟩
    refine ⟨(hS.cel mp6 rfl),?_⟩
    refine drM_s hS ?_;intro w hS
    obtain ⟨t21,ht21,h⟩:=bnd h
    refine wk_k_LentReals H hS (ve.mono tl7) ht21 ?_;rintro r63 w rfl hS
    refine ⟨_,_,_,rfl,?_⟩
    refine drM_s hS ?_;intro w hS
    replace hS:=ro5 hS
    refine stc_s hS rfl rfl ?_;intro w hS
    refine stc_s hS rfl rfl ?_;intro w hS
    refine stc_s hS rfl rfl ?_;intro w hS
    refine drM_s hS ?_;intro w hS
    replace hS:=ro5 hS
    refine stc_s hS rfl rfl ?_;intro w hS
    refine stc_s hS rfl rfl ?_;intro w hS
    refine stc_s hS rfl rfl ?_;intro w hS
    refine drM_s hS ?_;intro w hS
    exact hJ10 _ _ ⟨_,_,_,_,_,_,_,_,_,_,some_inj h,rfl,hS⟩
   refine drM_s hS ?_;intro w hS
   refine newM_s hS ?_;intro r64 w hS
   refine ⟨(hS.cel mp2 rfl),?_⟩
   refine ⟨(hS.cel mp2 rfl),?_⟩
   refine ⟨(hS.cel mp2 rfl),?_⟩
   refine ⟨(hS.cel mp2 rfl),?_⟩
   refine ⟨(hS.cel mp2 rfl),?_⟩
   refine ⟨?_,?_⟩
   ·
    refine drM_s hS ?_;intro w hS
    obtain ⟨⟨t17,t18,t19⟩,ho17,h⟩:=bnd h
    refine wk_k_LentFactor H hS (vw.mono tl3) (vx.mono tl3) ho17 ?_;clear hS ho17;rintro r65 r66 w rfl rfl hS
    refine ⟨_,_,_,_,_,_,_,rfl,?_⟩
    refine ⟨(hS.cel mp4 rfl),?_⟩
    refine ⟨(hS.cel mp4 rfl),?_⟩
    refine ⟨?_,?_⟩
    ·
     refine drM_s hS ?_;intro w hS
     obtain ⟨t20,ht20,h⟩:=bnd h
     refine wk_k_LentReals H hS (vk.mono tl5) ht20 ?_;rintro r67 w rfl hS
     refine ⟨_,_,_,rfl,?_⟩
     refine ⟨(hS.cel mp5 rfl),?_⟩
     refine ⟨?_,?_⟩
     ·
      refine drM_s hS ?_;intro w hS
      obtain ⟨t21,ht21,h⟩:=bnd h
      refine wk_k_LentReals H hS (ve.mono tl6) ht21 ?_;rintro r68 w rfl hS
      refine ⟨_,_,_,rfl,?_⟩
      refine drM_s hS ?_;intro w hS
      refine newM_s hS ?_;intro r69 w hS
      refine drM_s hS ?_;intro w hS
      refine stc_s hS rfl rfl ?_;intro w hS
      refine stc_s hS rfl rfl ?_;intro w hS
      refine stc_s hS rfl rfl ?_;intro w hS
      refine drM_s hS ?_;intro w hS
      replace hS:=ro5 hS
      refine stc_s hS rfl rfl ?_;intro w hS
      refine stc_s hS rfl rfl ?_;intro w hS
      refine stc_s hS rfl rfl ?_;intro w hS
      refine drM_s hS ?_;intro w hS
      exact hJ10 _ _ ⟨_,_,_,_,_,_,_,_,_,_,some_inj h,rfl,hS⟩
     refine drM_s hS ?_;intro w hS
     refine newM_s hS ?_;intro r70 w hS
     refine ⟨(hS.cel mp6 rfl),?_⟩
     refine drM_s hS ?_;intro w hS
     obtain ⟨t21,ht21,h⟩:=bnd h
     refine wk_k_LentReals H hS (ve.mono tl7) ht21 ?_;rintro r71 w rfl hS
     refine ⟨_,_,_,rfl,?_⟩
     refine drM_s hS ?_;intro w hS
     replace hS:=ro1 hS
     refine stc_s hS rfl rfl ?_;intro w hS
     refine stc_s hS rfl rfl ?_;intro w hS
     refine stc_s hS rfl rfl ?_;intro w hS
     refine drM_s hS ?_;intro w hS
     replace hS:=ro5 hS
     refine stc_s hS rfl rfl ?_;intro w hS
     refine stc_s hS rfl rfl ?_;intro w hS
     refine stc_s hS rfl rfl ?_;intro w hS
     refine drM_s hS ?_;intro w hS
     exact hJ10 _ _ ⟨_,_,_,_,_,_,_,_,_,_,some_inj h,rfl,hS⟩
    refine drM_s hS ?_;intro w hS
    refine newM_s hS ?_;intro r72 w hS
    refine ⟨(hS.cel mp5 rfl),?_⟩
    refine ⟨(hS.cel mp5 rfl),?_⟩
    refine drM_s hS ?_;intro w hS
    obtain ⟨t20,ht20,h⟩:=bnd h
    refine wk_k_LentReals H hS (vk.mono tl6) ht20 ?_;rintro r73 w rfl hS
    refine ⟨_,_,_,rfl,?_⟩
    refine ⟨(hS.cel mp6 rfl),?_⟩
    refine drM_s hS ?_;intro w hS
    obtain ⟨t21,ht21,h⟩:=bnd h
    refine wk_k_LentReals H hS (ve.mono tl7) ht21 ?_;rintro r74 w rfl hS
    refine ⟨_,_,_,rfl,?_⟩
    refine drM_s hS ?_;intro w hS
    replace hS:=ro2 hS
    refine stc_s hS rfl rfl ?_;intro w hS
    refine stc_s hS rfl rfl ?_;intro w hS
    refine stc_s hS rfl rfl ?_;intro w hS
    refine drM_s hS ?_;intro w hS
    replace hS:=ro5 hS
    refine stc_s hS rfl rfl ?_;intro w hS
    refine stc_s hS rfl rfl ?_;intro w hS
    refine stc_s hS rfl rfl ?_;intro w hS
    refine drM_s hS ?_;intro w hS
    exact hJ10 _ _ ⟨_,_,_,_,_,_,_,_,_,_,some_inj h,rfl,hS⟩
   refine drM_s hS ?_;intro w hS
   refine newM_s hS ?_;intro r75 w hS
   refine ⟨(hS.cel mp3 rfl),?_⟩
   refine ⟨(hS.cel mp3 rfl),?_⟩
   refine ⟨(hS.cel mp3 rfl),?_⟩
   refine ⟨(hS.cel mp3 rfl),?_⟩
   refine ⟨(hS.cel mp3 rfl),?_⟩
   refine drM_s hS ?_;intro w hS
   obtain ⟨⟨t17,t18,t19⟩,ho17,h⟩:=bnd h
   refine wk_k_LentFactor H hS (vw.mono tl4) (vx.mono tl4) ho17 ?_;clear hS ho17;rintro r76 r77 w rfl rfl hS
   refine ⟨_,_,_,_,_,_,_,rfl,?_⟩
   refine ⟨(hS.cel mp5 rfl),?_⟩
   refine ⟨(hS.cel mp5 rfl),?_⟩
   refine drM_s hS ?_;intro w hS
   obtain ⟨t20,ht20,h⟩:=bnd h
   refine wk_k_LentReals H hS (vk.mono tl6) ht20 ?_;rintro r78 w rfl hS
   refine ⟨_,_,_,rfl,?_⟩
   refine ⟨(hS.cel mp6 rfl),?_⟩
   refine drM_s hS ?_;intro w hS
   obtain ⟨t21,ht21,h⟩:=bnd h
   refine wk_k_LentReals H hS (ve.mono tl7) ht21 ?_;rintro r79 w rfl hS
   refine ⟨_,_,_,rfl,?_⟩
   refine drM_s hS ?_;intro w hS
   replace hS:=ro4 hS
   refine stc_s hS rfl rfl ?_;intro w hS
   refine stc_s hS rfl rfl ?_;intro w hS
   refine stc_s hS rfl rfl ?_;intro w hS
   refine drM_s hS ?_;intro w hS
   replace hS:=ro5 hS
   refine stc_s hS rfl rfl ?_;intro w hS
   refine stc_s hS rfl rfl ?_;intro w hS
   refine stc_s hS rfl rfl ?_;intro w hS
   refine drM_s hS ?_;intro w hS
   exact hJ10 _ _ ⟨_,_,_,_,_,_,_,_,_,_,some_inj h,rfl,hS⟩
  ·
   refine drM_s hS ?_;intro w hS
   refine newM_s hS ?_;intro r80 w hS
   refine ⟨(hS.cel mp1 rfl),?_⟩
   refine ⟨(hS.cel mp1 rfl),?_⟩
   refine ⟨(hS.cel mp1 rfl),?_⟩
   refine ⟨(hS.cel mp1 rfl),?_⟩
   refine ⟨(hS.cel mp1 rfl),?_⟩
   refine ⟨(hS.cel mp1 rfl),?_⟩
   refine ⟨(hS.cel mp1 rfl),?_⟩
   refine ⟨(hS.cel mp1 rfl),?_⟩
   refine ⟨?_,?_⟩
   ·
    refine drM_s hS ?_;intro w hS
    obtain ⟨⟨t14,t15,t16⟩,ho14,h⟩:=bnd h
    refine wk_k_LentMatrix H hS (qp.mono tl2) ho14 ?_;clear hS ho14;rintro r81 w rfl hS
    refine ⟨_,_,_,_,_,rfl,?_⟩
    refine ⟨(hS.cel mp2 rfl),?_⟩
    refine ⟨(hS.cel mp2 rfl),?_⟩
    refine ⟨(hS.cel mp2 rfl),?_⟩
    refine ⟨(hS.cel mp2 rfl),?_⟩
    refine ⟨(hS.cel mp2 rfl),?_⟩
    refine ⟨?_,?_⟩
    ·
     refine drM_s hS ?_;intro w hS
     obtain ⟨⟨t17,t18,t19⟩,ho17,h⟩:=bnd h
     refine wk_k_LentFactor H hS (vw.mono tl3) (vx.mono tl3) ho17 ?_;clear hS ho17;rintro r82 r83 w rfl rfl hS
     refine ⟨_,_,_,_,_,_,_,rfl,?_⟩
     refine ⟨(hS.cel mp4 rfl),?_⟩
     refine ⟨(hS.cel mp4 rfl),?_⟩
     refine ⟨?_,?_⟩
     ·
      refine drM_s hS ?_;intro w hS
      obtain ⟨t20,ht20,h⟩:=bnd h
      refine wk_k_LentReals H hS (vk.mono tl5) ht20 ?_;rintro r84 w rfl hS
      refine ⟨_,_,_,rfl,?_⟩
      refine ⟨(hS.cel mp5 rfl),?_⟩
      refine ⟨?_,?_⟩
      ·
       refine drM_s hS ?_;intro w hS
       obtain ⟨t21,ht21,h⟩:=bnd h
       refine wk_k_LentReals H hS (ve.mono tl6) ht21 ?_;rintro r85 w rfl hS
       refine ⟨_,_,_,rfl,?_⟩
       refine drM_s hS ?_;intro w hS
       refine newM_s hS ?_;intro r86 w hS
       refine drM_s hS ?_;intro w hS
       replace hS:=ro6 hS
       refine stc_s hS rfl rfl ?_;intro w hS
       refine stc_s hS rfl rfl ?_;intro w hS
       refine stc_s hS rfl rfl ?_;intro w hS
       refine drM_s hS ?_;intro w hS
       replace hS:=ro1 hS
       refine stc_s hS rfl rfl ?_;intro w hS
       refine stc_s hS rfl rfl ?_;intro w hS
       refine stc_s hS rfl rfl ?_;intro w hS
       refine drM_s hS ?_;intro w hS
       exact hJ10 _ _ ⟨_,_,_,_,_,_,_,_,_,_,some_inj h,rfl,hS⟩
      refine drM_s hS ?_;intro w hS
      refine newM_s hS ?_;intro r87 w hS
      refine ⟨(hS.cel mp6 rfl),?_⟩
      refine drM_s hS ?_;intro w hS
      obtain ⟨t21,ht21,h⟩:=bnd h
      refine wk_k_LentReals H hS (ve.mono tl7) ht21 ?_;rintro r88 w rfl hS
      refine ⟨_,_,_,rfl,?_⟩
      refine drM_s hS ?_;intro w hS
      replace hS:=ro6 hS
      refine stc_s hS rfl rfl ?_;intro w hS
      refine stc_s hS rfl rfl ?_;intro w hS
      refine stc_s hS rfl rfl ?_;intro w hS
      refine drM_s hS ?_;intro w hS
      replace hS:=ro2 hS
      refine stc_s hS rfl rfl ?_;intro w hS
      refine stc_s hS rfl rfl ?_;intro w hS
      refine stc_s hS rfl rfl ?_;intro w hS
      refine drM_s hS ?_;intro w hS
      exact hJ10 _ _ ⟨_,_,_,_,_,_,_,_,_,_,some_inj h,rfl,hS⟩
     refine drM_s hS ?_;intro w hS
     refine newM_s hS ?_;intro r89 w hS
     refine ⟨(hS.cel mp5 rfl),?_⟩
     refine ⟨(hS.cel mp5 rfl),?_⟩
     refine drM_s hS ?_;intro w hS
     obtain ⟨t20,ht20,h⟩:=bnd h
     refine wk_k_LentReals H hS (vk.mono tl6) ht20 ?_;rintro r90 w rfl hS
     refine ⟨_,_,_,rfl,?_⟩
     refine ⟨(hS.cel mp6 rfl),?_⟩
     refine drM_s hS ?_;intro w hS
     obtain ⟨t21,ht21,h⟩:=bnd h
     refine wk_k_LentReals H hS (ve.mono tl7) ht21 ?_;rintro r91 w rfl hS
     refine ⟨_,_,_,rfl,?_⟩
     refine drM_s hS ?_;intro w hS
     replace hS:=ro6 hS
     refine stc_s hS rfl rfl ?_;intro w hS
     refine stc_s hS rfl rfl ?_;intro w hS
     refine stc_s hS rfl rfl ?_;intro w hS
     refine drM_s hS ?_;intro w hS
     replace hS:=ro3 hS
     refine stc_s hS rfl rfl ?_;intro w hS
     refine stc_s hS rfl rfl ?_;intro w hS
     refine stc_s hS rfl rfl ?_;intro w hS
     refine drM_s hS ?_;intro w hS
     exact hJ10 _ _ ⟨_,_,_,_,_,_,_,_,_,_,some_inj h,rfl,hS⟩
    refine drM_s hS ?_;intro w hS
    refine newM_s hS ?_;intro r92 w hS
    refine ⟨(hS.cel mp3 rfl),?_⟩
    refine ⟨(hS.cel mp3 rfl),?_⟩
    refine ⟨(hS.cel mp3 rfl),?_⟩
    refine ⟨(hS.cel mp3 rfl),?_⟩
    refine ⟨(hS.cel mp3 rfl),?_⟩
    refine drM_s hS ?_;intro w hS
    obtain ⟨⟨t17,t18,t19⟩,ho17,h⟩:=bnd h
    refine wk_k_LentFactor H hS (vw.mono tl4) (vx.mono tl4) ho17 ?_;clear hS ho17;rintro r93 r94 w rfl rfl hS
    refine ⟨_,_,_,_,_,_,_,rfl,?_⟩
    refine ⟨(hS.cel mp5 rfl),?_⟩
    refine ⟨(hS.cel mp5 rfl),?_⟩
    refine drM_s hS ?_;intro w hS
    obtain ⟨t20,ht20,h⟩:=bnd h
    refine wk_k_LentReals H hS (vk.mono tl6) ht20 ?_;rintro r95 w rfl hS
    refine ⟨_,_,_,rfl,?_⟩
    refine ⟨(hS.cel mp6 rfl),?_⟩
    refine drM_s hS ?_;intro w hS
    obtain ⟨t21,ht21,h⟩:=bnd h
    refine wk_k_LentReals H hS (ve.mono tl7) ht21 ?_;rintro r96 w rfl hS
    refine ⟨_,_,_,rfl,?_⟩
    refine drM_s hS ?_;intro w hS
    replace hS:=ro6 hS
    refine stc_s hS rfl rfl ?_;intro w hS
    refine stc_s hS rfl rfl ?_;intro w hS
    refine stc_s hS rfl rfl ?_;intro w hS
    refine drM_s hS ?_;intro w hS
    replace hS:=ro5 hS
    refine stc_s hS rfl rfl ?_;intro w hS
    refine stc_s hS rfl rfl ?_;intro w hS
    refine stc_s hS rfl rfl ?_;intro w hS
    refine drM_s hS ?_;intro w hS
    exact hJ10 _ _ ⟨_,_,_,_,_,_,_,_,_,_,some_inj h,rfl,hS⟩
   refine drM_s hS ?_;intro w hS
   refine newM_s hS ?_;intro r97 w hS
   refine ⟨(hS.cel mp2 rfl),?_⟩
   refine ⟨(hS.cel mp2 rfl),?_⟩
   refine ⟨(hS.cel mp2 rfl),?_⟩
   refine ⟨(hS.cel mp2 rfl),?_⟩
   refine ⟨(hS.cel mp2 rfl),?_⟩
   refine ⟨(hS.cel mp2 rfl),?_⟩
   refine ⟨(hS.cel mp2 rfl),?_⟩
   refine ⟨(hS.cel mp2 rfl),?_⟩
   refine drM_s hS ?_;intro w hS
   obtain ⟨⟨t14,t15,t16⟩,ho14,h⟩:=bnd h
   refine wk_k_LentMatrix H hS (qp.mono tl3) ho14 ?_;clear hS ho14;rintro r98 w rfl hS
   refine ⟨_,_,_,_,_,rfl,?_⟩
   refine ⟨(hS.cel mp3 rfl),?_⟩
   refine ⟨(hS.cel mp3 rfl),?_⟩
   refine ⟨(hS.cel mp3 rfl),?_⟩
   refine ⟨(hS.cel mp3 rfl),?_⟩
   refine ⟨(hS.cel mp3 rfl),?_⟩
   refine drM_s hS ?_;intro w hS
   obtain ⟨⟨t17,t18,t19⟩,ho17,h⟩:=bnd h
   refine wk_k_LentFactor H hS (vw.mono tl4) (vx.mono tl4) ho17 ?_;clear hS ho17;rintro r99 r100 w rfl rfl hS
   refine ⟨_,_,_,_,_,_,_,rfl,?_⟩
   refine ⟨(hS.cel mp5 rfl),?_⟩
   refine ⟨(hS.cel mp5 rfl),?_⟩
   refine drM_s hS ?_;intro w hS
   obtain ⟨t20,ht20,h⟩:=bnd h
   refine wk_k_LentReals H hS (vk.mono tl6) ht20 ?_;rintro r101 w rfl hS
   refine ⟨_,_,_,rfl,?_⟩
   refine ⟨(hS.cel mp6 rfl),?_⟩
   refine drM_s hS ?_;intro w hS
   obtain ⟨t21,ht21,h⟩:=bnd h
   refine wk_k_LentReals H hS (ve.mono tl7) ht21 ?_;rintro r102 w rfl hS
   refine ⟨_,_,_,rfl,?_⟩
   refine drM_s hS ?_;intro w hS
   replace hS:=ro6 hS
   refine stc_s hS rfl rfl ?_;intro w hS
   refine stc_s hS rfl rfl ?_;intro w hS
   refine stc_s hS rfl rfl ?_;intro w hS
   refine drM_s hS ?_;intro w hS
   replace hS:=ro6 hS
   refine stc_s hS rfl rfl ?_;intro w hS
   refine stc_s hS rfl rfl ?_;intro w hS
   refine stc_s hS rfl rfl ?_;intro w hS
   refine drM_s hS ?_;intro w hS
   exact hJ10 _ _ ⟨_,_,_,_,_,_,_,_,_,_,some_inj h,rfl,hS⟩
  refine drM_s hS ?_;intro w hS
  refine newM_s hS ?_;intro r103 w hS
  refine ⟨(hS.cel mp1 rfl),?_⟩
  refine ⟨(hS.cel mp1 rfl),?_⟩
  refine ⟨(hS.cel mp1 rfl),?_⟩
  refine ⟨(hS.cel mp1 rfl),?_⟩
  refine ⟨(hS.cel mp1 rfl),?_⟩
  refine ⟨(hS.cel mp1 rfl),?_⟩
  refine ⟨(hS.cel mp1 rfl),?_⟩
  refine ⟨(hS.cel mp1 rfl),?_⟩
  refine ⟨?_,?_⟩
  ·
   refine drM_s hS ?_;intro w hS
   obtain ⟨⟨t14,t15,t16⟩,ho14,h⟩:=bnd h
   refine wk_k_LentMatrix H hS (qp.mono tl2) ho14 ?_;clear hS ho14;rintro r104 w rfl hS
   refine ⟨_,_,_,_,_,rfl,?_⟩
   refine ⟨(hS.cel mp2 rfl),?_⟩
   refine ⟨(hS.cel mp2 rfl),?_⟩
   refine ⟨(hS.cel mp2 rfl),?_⟩
   refine ⟨(hS.cel mp2 rfl),?_⟩
   refine ⟨(hS.cel mp2 rfl),?_⟩
   refine ⟨?_,?_⟩
   ·
    refine drM_s hS ?_;intro w hS
    obtain ⟨⟨t17,t18,t19⟩,ho17,h⟩:=bnd h
    refine wk_k_LentFactor H hS (vw.mono tl3) (vx.mono tl3) ho17 ?_;clear hS ho17;rintro r105 r106 w rfl rfl hS
    refine ⟨_,_,_,_,_,_,_,rfl,?_⟩
    refine ⟨(hS.cel mp4 rfl),?_⟩
    refine ⟨(hS.cel mp4 rfl),?_⟩
    refine ⟨?_,?_⟩
    ·
     refine drM_s hS ?_;intro w hS
     obtain ⟨t20,ht20,h⟩:=bnd h
     refine wk_k_LentReals H hS (vk.mono tl5) ht20 ?_;rintro r107 w rfl hS
     refine ⟨_,_,_,rfl,?_⟩
     refine ⟨(hS.cel mp5 rfl),?_⟩
     refine ⟨?_,?_⟩
     ·
      refine drM_s hS ?_;intro w hS
      obtain ⟨t21,ht21,h⟩:=bnd h
      refine wk_k_LentReals H hS (ve.mono tl6) ht21 ?_;rintro r108 w rfl hS
      refine ⟨_,_,_,rfl,?_⟩
      refine drM_s hS ?_;intro w hS
      refine newM_s hS ?_;intro r109 w hS
      refine drM_s hS ?_;intro w hS
      refine stc_s hS rfl rfl ?_;intro w hS
      refine stc_s hS rfl rfl ?_;intro w hS
      refine stc_s hS rfl rfl ?_;intro w hS
      refine drM_s hS ?_;intro w hS
      replace hS:=ro6 hS
      refine stc_s hS rfl rfl ?_;intro w hS
      refine stc_s hS rfl rfl ?_;intro w hS
      refine stc_s hS rfl rfl ?_;intro w hS
      refine drM_s hS ?_;intro w hS
      exact hJ10 _ _ ⟨_,_,_,_,_,_,_,_,_,_,some_inj h,rfl,hS⟩
     refine drM_s hS ?_;intro w hS
     refine newM_s hS ?_;intro r110 w hS
     refine ⟨(hS.cel mp6 rfl),?_⟩
     refine drM_s hS ?_;intro w hS
     obtain ⟨t21,ht21,h⟩:=bnd h
     refine wk_k_LentReals H hS (ve.mono tl7) ht21 ?_;rintro r111 w rfl hS
     refine ⟨_,_,_,rfl,?_⟩
     refine drM_s hS ?_;intro w hS
     replace hS:=ro1 hS
     refine stc_s hS rfl rfl ?_;intro w hS
     refine stc_s hS rfl rfl ?_;intro w hS
     refine stc_s hS rfl rfl ?_;intro w hS
     refine drM_s hS ?_;intro w hS
     replace hS:=ro6 hS
     refine stc_s hS rfl rfl ?_;intro w hS
     refine stc_s hS rfl rfl ?_;intro w hS
     refine stc_s hS rfl rfl ?_;intro w hS
     refine drM_s hS ?_;intro w hS
     exact hJ10 _ _ ⟨_,_,_,_,_,_,_,_,_,_,some_inj h,rfl,hS⟩
    refine drM_s hS ?_;intro w hS
    refine newM_s hS ?_;intro r112 w hS
    refine ⟨(hS.cel mp5 rfl),?_⟩
    refine ⟨(hS.cel mp5 rfl),?_⟩
    refine drM_s hS ?_;intro w hS
    obtain ⟨t20,ht20,h⟩:=bnd h
    refine wk_k_LentReals H hS (vk.mono tl6) ht20 ?_;rintro r113 w rfl hS
    refine ⟨_,_,_,rfl,?_⟩
    refine ⟨(hS.cel mp6 rfl),?_⟩
    refine drM_s hS ?_;intro w hS
    obtain ⟨t21,ht21,h⟩:=bnd h
    refine wk_k_LentReals H hS (ve.mono tl7) ht21 ?_;rintro r114 w rfl hS
    refine ⟨_,_,_,rfl,?_⟩
    refine drM_s hS ?_;intro w hS
    replace hS:=ro2 hS
    refine stc_s hS rfl rfl ?_;intro w hS
    refine stc_s hS rfl rfl ?_;intro w hS
    refine stc_s hS rfl rfl ?_;intro w hS
    refine drM_s hS ?_;intro w hS
    replace hS:=ro6 hS
    refine stc_s hS rfl rfl ?_;intro w hS
    refine stc_s hS rfl rfl ?_;intro w hS
    refine stc_s hS rfl rfl ?_;intro w hS
    refine drM_s hS ?_;intro w hS
    exact hJ10 _ _ ⟨_,_,_,_,_,_,_,_,_,_,some_inj h,rfl,hS⟩
   refine drM_s hS ?_;intro w hS
   refine newM_s hS ?_;intro r115 w hS
   refine ⟨(hS.cel mp3 rfl),?_⟩
   refine ⟨(hS.cel mp3 rfl),?_⟩
   refine ⟨(hS.cel mp3 rfl),?_⟩
   refine ⟨(hS.cel mp3 rfl),?_⟩
   refine ⟨(hS.cel mp3 rfl),?_⟩
   refine drM_s hS ?_;intro w hS
   obtain ⟨⟨t17,t18,t19⟩,ho17,h⟩:=bnd h
   refine wk_k_LentFactor H hS (vw.mono tl4) (vx.mono tl4) ho17 ?_;clear hS ho17;rintro r116 r117 w rfl rfl hS
   refine ⟨_,_,_,_,_,_,_,rfl,?_⟩
   refine ⟨(hS.cel mp5 rfl),?_⟩
   refine ⟨(hS.cel mp5 rfl),?_⟩
   refine drM_s hS ?_;intro w hS
   obtain ⟨t20,ht20,h⟩:=bnd h
   refine wk_k_LentReals H hS (vk.mono tl6) ht20 ?_;rintro r118 w rfl hS
   refine ⟨_,_,_,rfl,?_⟩
   refine ⟨(hS.cel mp6 rfl),?_⟩
   refine drM_s hS ?_;intro w hS
   obtain ⟨t21,ht21,h⟩:=bnd h
   refine wk_k_LentReals H hS (ve.mono tl7) ht21 ?_;rintro r119 w rfl hS
   refine ⟨_,_,_,rfl,?_⟩
   refine drM_s hS ?_;intro w hS
   replace hS:=ro4 hS
   refine stc_s hS rfl rfl ?_;intro w hS
   refine stc_s hS rfl rfl ?_;intro w hS
   refine stc_s hS rfl rfl ?_;intro w hS
   refine drM_s hS ?_;intro w hS
   replace hS:=ro6 hS
   refine stc_s hS rfl rfl ?_;intro w hS
   refine stc_s hS rfl rfl ?_;intro w hS
   refine stc_s hS rfl rfl ?_;intro w hS
   refine drM_s hS ?_;intro w hS
   exact hJ10 _ _ ⟨_,_,_,_,_,_,_,_,_,_,some_inj h,rfl,hS⟩
  refine drM_s hS ?_;intro w hS
  refine newM_s hS ?_;intro r120 w hS
  refine ⟨(hS.cel mp2 rfl),?_⟩
  refine ⟨(hS.cel mp2 rfl),?_⟩
  refine ⟨(hS.cel mp2 rfl),?_⟩
  refine ⟨(hS.cel mp2 rfl),?_⟩
  refine ⟨(hS.cel mp2 rfl),?_⟩
  refine ⟨(hS.cel mp2 rfl),?_⟩
  refine ⟨(hS.cel mp2 rfl),?_⟩
  refine ⟨(hS.cel mp2 rfl),?_⟩
  refine drM_s hS ?_;intro w hS
  obtain ⟨⟨t14,t15,t16⟩,ho14,h⟩:=bnd h
  refine wk_k_LentMatrix H hS (qp.mono tl3) ho14 ?_;clear hS ho14;rintro r121 w rfl hS
  refine ⟨_,_,_,_,_,rfl,?_⟩
  refine ⟨(hS.cel mp3 rfl),?_⟩
  refine ⟨(hS.cel mp3 rfl),?_⟩
  refine ⟨(hS.cel mp3 rfl),?_⟩
  refine ⟨(hS.cel mp3 rfl),?_⟩
  refine ⟨(hS.cel mp3 rfl),?_⟩
  refine drM_s hS ?_;intro w hS
  obtain ⟨⟨t17,t18,t19⟩,ho17,h⟩:=bnd h
  refine wk_k_LentFactor H hS (vw.mono tl4) (vx.mono tl4) ho17 ?_;clear hS ho17;rintro r122 r123 w rfl rfl hS
  refine ⟨_,_,_,_,_,_,_,rfl,?_⟩
  refine ⟨(hS.cel mp5 rfl),?_⟩
  refine ⟨(hS.cel mp5 rfl),?_⟩
  refine drM_s hS ?_;intro w hS
  obtain ⟨t20,ht20,h⟩:=bnd h
  refine wk_k_LentReals H hS (vk.mono tl6) ht20 ?_;rintro r124 w rfl hS
  refine ⟨_,_,_,rfl,?_⟩
  refine ⟨(hS.cel mp6 rfl),?_⟩
  refine drM_s hS ?_;intro w hS
  obtain ⟨t21,ht21,h⟩:=bnd h
  refine wk_k_LentReals H hS (ve.mono tl7) ht21 ?_;rintro r125 w rfl hS
  refine ⟨_,_,_,rfl,?_⟩
  refine drM_s hS ?_;intro w hS
  replace hS:=ro5 hS
  refine stc_s hS rfl rfl ?_;intro w hS
  refine stc_s hS rfl rfl ?_;intro w hS
  refine stc_s hS rfl rfl ?_;intro w hS
  refine drM_s hS ?_;intro w hS
  replace hS:=ro6 hS
  refine stc_s hS rfl rfl ?_;intro w hS
  refine stc_s hS rfl rfl ?_;intro w hS
  refine stc_s hS rfl rfl ?_;intro w hS
  refine drM_s hS ?_;intro w hS
  exact hJ10 _ _ ⟨_,_,_,_,_,_,_,_,_,_,some_inj h,rfl,hS⟩
 clear h10 hS
 rintro s w ⟨r3,t6,r4,t7,t8,r5,r6,r7,r8,r9,rfl,rfl,hS⟩
 have h:=c10
 clear c10
 try dsimp only
 refine optM_s ?_
 refine ⟨_,hS.cel mp1 rfl,_,hS.cel mp1 rfl,_,_,_,hS.cel mp1 rfl,?_⟩
 refine optM_s ?_
 refine ⟨_,hS.cel mp0 rfl,_,_,_,hS.cel mp0 rfl,_,_,_,hS.cel mp0 rfl,?_⟩
 obtain ⟨⟨t22,t23⟩,ho22,h⟩:=bnd h
 refine wk_refine_Step H hS (Ent.lent (Ent.sl mp6) rfl rfl) (Ent.lent (Ent.sl mp4) rfl rfl) (Ent.lent (Ent.sl mp5) rfl rfl) (Ent.lent (Ent.sl mp3) rfl rfl) (Ent.lent (Ent.sl mp2) rfl rfl) (hG.mono tl8) ho22 ?_;clear hS ho22;rintro a126 m126 c126 zo w rfl hS
 refine ⟨_,_,_,_,rfl,?_⟩
 refine ⟨_,hS.cel mp8 rfl,_,hS.cel mp8 rfl,_,_,_,hS.cel mp8 rfl,_,hS.cel mp8 rfl,_,_,_,hS.cel mp8 rfl,_,_,_,hS.cel mp8 rfl,_,_,_,hS.cel mp8 rfl,_,_,_,hS.cel mp8 rfl,?_⟩
 obtain ⟨⟨t24,t25⟩,ho24,h⟩:=bnd h
 refine wk_r14_Step H hS (qp.mono tl9) (vw.mono tl9) (vx.mono tl9) (vk.mono tl9) (ve.mono tl9) ho24 ?_;clear hS ho24;rintro a127 m127 c127 zp w rfl hS
 refine ⟨_,_,_,_,rfl,?_⟩
 refine optM_s ?_
 refine ⟨_,hS.cel mp3 rfl,_,hS.cel mp3 rfl,_,_,_,hS.cel mp3 rfl,_,hS.cel mp9 rfl,_,hS.cel mp9 rfl,_,_,_,hS.cel mp9 rfl,?_⟩
 obtain ⟨t26,ht26,h⟩:=bnd h
 refine wk_k_KeptMatrix H hS (Ent.sl mp8) (qp.mono tl10) ht26 ?_;rintro w hS
 refine ⟨_,rfl,?_⟩
 refine cond_s h ?_ ?_<;>intro hc h
 ·
  refine optM_s ?_
  refine ⟨_,hS.cel mp2 rfl,_,_,_,hS.cel mp2 rfl,_,_,_,hS.cel mp2 rfl,_,hS.cel mp9 rfl,_,_,_,hS.cel mp9 rfl,_,_,_,hS.cel mp9 rfl,?_⟩
  obtain ⟨t27,ht27,h⟩:=bnd h
  refine wk_k_KeptFactor H hS (Ent.sl mp6) (Ent.sl mp7) (vw.mono tl10) (vx.mono tl10) ht27 ?_;rintro w hS
  refine ⟨_,rfl,?_⟩
  refine cond_s h ?_ ?_<;>intro hc h
  ·
   refine ⟨_,_,_,hS.cel mp9 rfl,?_⟩
   obtain ⟨t28,ht28,h⟩:=bnd h
   refine wk_k_KeptReals H hS (Ent.sl mp5) (vk.mono tl10) ht28 ?_;rintro w hS
   refine ⟨_,rfl,?_⟩
   refine cond_s h ?_ ?_<;>intro hc h
   ·
    refine ⟨_,_,_,hS.cel mp9 rfl,?_⟩
    obtain ⟨t29,ht29,h⟩:=bnd h
    refine wk_k_KeptReals H hS (Ent.sl mp4) (ve.mono tl10) ht29 ?_;rintro w hS
    refine ⟨_,rfl,?_⟩
    refine cond_s h ?_ ?_<;>intro hc h
    ·
     refine cond_s h ?_ ?_<;>intro hc h
     ·
      obtain ⟨t30,ht30,h⟩:=bnd h
      refine wk_k_SameReals H hS (Ent.sl mp1) (Ent.sl mp0) ht30 ?_;rintro w hS
      refine ⟨_,rfl,?_⟩
      cases some_inj h
      exact hK _ (hS.pick (A:=[_,_,_,_,_,_,_,_,_,_]) [] rfl)
     cases some_inj h
     exact hK _ (hS.pick (A:=[_,_,_,_,_,_,_,_,_,_]) [] rfl)
    cases some_inj h
    exact hK _ (hS.pick (A:=[_,_,_,_,_,_,_,_,_,_]) [] rfl)
   cases some_inj h
   exact hK _ (hS.pick (A:=[_,_,_,_,_,_,_,_,_,_]) [] rfl)
  cases some_inj h
  exact hK _ (hS.pick (A:=[_,_,_,_,_,_,_,_,_,_]) [] rfl)
 cases some_inj h
 exact hK _ (hS.pick (A:=[_,_,_,_,_,_,_,_,_,_]) [] rfl)
end Go.Eng
