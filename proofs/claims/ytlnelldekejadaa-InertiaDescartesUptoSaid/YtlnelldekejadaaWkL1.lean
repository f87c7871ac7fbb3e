/-
 Each function comes to what its function of plain Lean says, printed by a program of the session. No condition.
-/
import Derived.Test.YtlnelldekejadaaTpL
import Derived.Test.YtlnelldekejadaaWk
set_option linter.all false
set_option maxRecDepth 100000
set_option maxHeartbeats 4000000
namespace Go.Eng
open Go
variable {N:Nums} {P:Program} (H:AllOk N P) {w0 w:World} {L:List It} {K:Value→World→Prop}
include H
theorem wk_inertia_Signs {q0_0 q0_1 q0_2 q0_2l q0_2c} {H0_2:List Hd} {l0_2:List Dy} {u0 u1 u2 u3} (hS:Ho w0 w L) (hq0_2:Ent L (rdA (dyC l0_2 H0_2) q0_2 (q0_2l*3) (q0_2c*3))) (gq0_2:AllD L l0_2 H0_2) (hx:T_inertia_Signs q0_0 q0_1 l0_2=some (u0,u1,u2,u3)) (hK:∀ w1,Ho w0 w1 L→K (.tuple #[.agg #[.int .i64 u0,.int .i64 u1,.int .i64 u2],.int .i64 u3]) w1):CallsX P N.f_inertia_Signs #[.agg #[.int .i64 q0_0,.int .i64 q0_1,.slice q0_2 q0_2l q0_2c]] w K:=by
 unfold T_inertia_Signs at hx
 exact wkH_Signs H hS hq0_2 gq0_2 hx hK
theorem wk_inertia_Poly {q0_0 q0_1 q0_2 q0_2l q0_2c} {H0_2:List Hd} {l0_2:List Dy} {u0:List Dy} {u1} (hS:Ho w0 w L) (hq0_2:Ent L (rdA (dyC l0_2 H0_2) q0_2 (q0_2l*3) (q0_2c*3))) (gq0_2:AllD L l0_2 H0_2) (hx:T_inertia_Poly q0_0 q0_1 l0_2=some (u0,u1)) (hK:∀ (a0:Option Addr) (n0 c0:Nat) (hh0:List Hd) (it0:It) (w1:World),(∀ L1,it0∈L1→AllD L1 u0 hh0)→Ho w0 w1 ((sl a0 (n0*3) (c0*3) (dyC u0 hh0) N.t_Dyad)::it0::L)→K (.tuple #[.slice a0 n0 c0,.int .i64 u1]) w1):CallsX P N.f_inertia_Poly #[.agg #[.int .i64 q0_0,.int .i64 q0_1,.slice q0_2 q0_2l q0_2c]] w K:=by
 unfold T_inertia_Poly at hx
 exact wkH_Poly H hS hq0_2 gq0_2 hx hK
theorem wk_inertia_Below {q0_0 q0_1 q0_2 q0_2l q0_2c} {H0_2:List Hd} {l0_2:List Dy} {q1_0 q1_1 q1_1l q1_1c l1_1 q1_2 u0 u1} (hS:Ho w0 w L) (hq0_2:Ent L (rdA (dyC l0_2 H0_2) q0_2 (q0_2l*3) (q0_2c*3))) (gq0_2:AllD L l0_2 H0_2) (hq1_1:EU L l1_1 q1_1 q1_1l q1_1c) (hx:T_inertia_Below q0_0 q0_1 l0_2 q1_0 l1_1 q1_2=some (u0,u1)) (hK:∀ w1,Ho w0 w1 L→K (.tuple #[.int .i64 u0,.int .i64 u1]) w1):CallsX P N.f_inertia_Below #[.agg #[.int .i64 q0_0,.int .i64 q0_1,.slice q0_2 q0_2l q0_2c],.agg #[.bool q1_0,.slice q1_1 q1_1l q1_1c,.int .i64 q1_2]] w K:=by
 unfold T_inertia_Below at hx
 exact wkH_Below H hS hq0_2 gq0_2 hq1_1 hx hK
theorem wk_w16_awake  {u0} (hS:Ho w0 w L)  (h:T_w16_awake  = some u0) (hK:∀ w1,Ho w0 w1 L→K (.bool u0) w1):CallsX P N.f_w16_awake #[] w K:=by
 refine H.w16_awake  w _ ?_
 unfold S_w16_awake
 unfold T_w16_awake at h
 try dsimp only
 replace hS:=hS.voidItem
 obtain ⟨t1,ht1,h⟩:=bnd h
 obtain rfl:([1,2,2,1]:List Int)=t1:=some_inj ht1
 refine lit_s (ks:=[1,2,2,1]) (enc:=(Value.int .i64)) (m:=4) hS rfl rfl ?_;intro r1 w hS
 obtain ⟨⟨t2,t3,t4⟩,ho2,h⟩:=bnd h
 refine wk_w16_of H hS (Ent.sl mp0) ho2 ?_;clear hS ho2;rintro a2 m2 c2 hh2 it2 w ed2 hS
 refine ⟨_,_,_,_,_,rfl,?_⟩
 replace ed2:=ed2 [it2] mp0
 replace hS:=ro3 hS
 replace hS:=ro2 hS
 replace hS:=hS.both
 replace ed2:=AllD.both (L:=[]) (y:=vd) (ed2.mono (incl_one mp0))
 obtain ⟨⟨t5,t6,t7,t8⟩,ho5,h⟩:=bnd h
 refine wk_inertia_Signs H hS (Ent.sl mp1) (ed2.mono (incl_one mp0)) ho5 ?_;clear hS ho5;rintro w hS
 refine ⟨_,_,_,_,rfl,?_⟩
 refine newM_s hS ?_;intro r3 w hS
 refine stc_s hS rfl rfl ?_;intro w hS
 refine stc_s hS rfl rfl ?_;intro w hS
 refine stc_s hS rfl rfl ?_;intro w hS
 obtain ⟨t9,ht9,h⟩:=bnd h
 obtain rfl:([1,2,2,1]:List Int)=t9:=some_inj ht9
 refine lit_s (ks:=[1,2,2,1]) (enc:=(Value.int .i64)) (m:=4) hS rfl rfl ?_;intro r4 w hS
 obtain ⟨⟨t10,t11,t12⟩,ho10,h⟩:=bnd h
 refine wk_w16_of H hS (Ent.sl mp0) ho10 ?_;clear hS ho10;rintro a5 m5 c5 hh5 it5 w ed5 hS
 refine ⟨_,_,_,_,_,rfl,?_⟩
 replace ed5:=ed5 [it5] mp0
 replace hS:=ro4 hS
 replace hS:=ro2 hS
 replace hS:=hS.both
 replace ed5:=AllD.both (L:=[]) (y:=(both it2 vd)) (ed5.mono (incl_one mp0))
 replace ed2:=AllD.both (L:=[]) (x:=it5) (ed2.mono (incl_one mp1))
 obtain ⟨⟨t13,t14⟩,ho13,h⟩:=bnd h
 refine wk_inertia_Poly H hS (Ent.sl mp1) (ed5.mono (incl_one mp0)) ho13 ?_;clear hS ho13;rintro a6 m6 c6 hh6 it6 w ed6 hS
 refine ⟨_,_,_,_,rfl,?_⟩
 replace ed6:=ed6 [it6] mp0
 replace hS:=ro2 hS
 replace hS:=ro2 hS
 replace hS:=hS.both
 replace ed6:=AllD.both (L:=[]) (y:=(both it5 (both it2 vd))) (ed6.mono (incl_one mp0))
 replace ed5:=AllD.both (L:=[]) (x:=it6) (ed5.mono (incl_one mp1))
 replace ed2:=AllD.both (L:=[]) (x:=it6) (ed2.mono (incl_one mp1))
 obtain ⟨t15,ht15,h⟩:=bnd h
 obtain rfl:([1,2,2,1]:List Int)=t15:=some_inj ht15
 refine lit_s (ks:=[1,2,2,1]) (enc:=(Value.int .i64)) (m:=4) hS rfl rfl ?_;intro r7 w hS
 obtain ⟨⟨t16,t17,t18⟩,ho16,h⟩:=bnd h
 refine wk_w16_of H hS (Ent.sl mp0) ho16 ?_;clear hS ho16;rintro a8 m8 c8 hh8 it8 w ed8 hS
 refine ⟨_,_,_,_,_,rfl,?_⟩
 replace ed8:=ed8 [it8] mp0
 replace hS:=ro3 hS
 replace hS:=ro2 hS
 replace hS:=hS.both
 replace ed8:=AllD.both (L:=[]) (y:=(both it6 (both it5 (both it2 vd)))) (ed8.mono (incl_one mp0))
 replace ed6:=AllD.both (L:=[]) (x:=it8) (ed6.mono (incl_one mp1))
 replace ed5:=AllD.both (L:=[]) (x:=it8) (ed5.mono (incl_one mp1))
 replace ed2:=AllD.both (L:=[]) (x:=it8) (ed2.mono (incl_one mp1))
 obtain ⟨⟨t19,t20,t21⟩,ho19,h⟩:=bnd h
 refine wk_r02_Int H hS  ho19 ?_;clear hS ho19;rintro a9 m9 c9 w hS
 refine ⟨_,_,_,_,_,rfl,?_⟩
 obtain ⟨⟨t22,t23⟩,ho22,h⟩:=bnd h
 refine wk_inertia_Below H hS (Ent.sl mp2) (ed8.mono (incl_one mp1)) (Ent.sl mp0) ho22 ?_;clear hS ho22;rintro w hS
 refine ⟨_,_,rfl,?_⟩
 refine cond_s h ?_ ?_<;>intro hc h
 ·
  refine cond_s h ?_ ?_<;>intro hc h
  ·
   refine cond_s h ?_ ?_<;>intro hc h
   ·
    refine cond_s h ?_ ?_<;>intro hc h
    ·
     refine ⟨_,hS.cel mp7 rfl,_,hS.cel mp7 rfl,_,hS.cel mp7 rfl,?_⟩
     refine cond_s h ?_ ?_<;>intro hc h
     ·
      obtain ⟨t24,ht24,h⟩:=bnd h
      obtain rfl:([(-3),(-2),1]:List Int)=t24:=some_inj ht24
      refine lit_s (ks:=[(-3),(-2),1]) (enc:=(Value.int .i64)) (m:=3) hS rfl rfl ?_;intro r10 w hS
      obtain ⟨⟨t25,t26,t27⟩,ho25,h⟩:=bnd h
      refine wk_w16_of H hS (Ent.sl mp0) ho25 ?_;clear hS ho25;rintro a11 m11 c11 hh11 it11 w ed11 hS
      refine ⟨_,_,_,_,_,rfl,?_⟩
      replace ed11:=ed11 [it11] mp0
      replace hS:=ro4 hS
      replace hS:=ro2 hS
      replace hS:=hS.both
      replace ed11:=AllD.both (L:=[]) (y:=(both it8 (both it6 (both it5 (both it2 vd))))) (ed11.mono (incl_one mp0))
      replace ed8:=AllD.both (L:=[]) (x:=it11) (ed8.mono (incl_one mp1))
      replace ed6:=AllD.both (L:=[]) (x:=it11) (ed6.mono (incl_one mp1))
      replace ed5:=AllD.both (L:=[]) (x:=it11) (ed5.mono (incl_one mp1))
      replace ed2:=AllD.both (L:=[]) (x:=it11) (ed2.mono (incl_one mp1))
      obtain ⟨t28,ht28,h⟩:=bnd h
      refine wk_k_SameDyads H hS (Ent.sl mp6) (ed6.mono (incl_one mp0)) (Ent.sl mp1) (ed11.mono (incl_one mp0)) ht28 ?_;rintro w hS
      refine ⟨_,rfl,?_⟩
      cases some_inj h
      exact hK _ (hS.pick (A:=[_,_,_,_,_,_,_,_,_,_,_,_]) [] rfl)
     cases some_inj h
     exact hK _ (hS.pick (A:=[_,_,_,_,_,_,_,_,_,_]) [] rfl)
    cases some_inj h
    exact hK _ (hS.pick (A:=[_,_,_,_,_,_,_,_,_,_]) [] rfl)
   cases some_inj h
   exact hK _ (hS.pick (A:=[_,_,_,_,_,_,_,_,_,_]) [] rfl)
  cases some_inj h
  exact hK _ (hS.pick (A:=[_,_,_,_,_,_,_,_,_,_]) [] rfl)
 cases some_inj h
 exact hK _ (hS.pick (A:=[_,_,_,_,_,_,_,_,_,_]) [] rfl)
theorem wk_w16_InertiaDescartes {q0_0 q0_1 q0_2 q0_2l q0_2c} {H0_2:List Hd} {l0_2:List Dy} {u0} (hS:Ho w0 w L) (hq0_2:Ent L (rdA (dyC l0_2 H0_2) q0_2 (q0_2l*3) (q0_2c*3))) (gq0_2:AllD L l0_2 H0_2) (h:T_w16_InertiaDescartes q0_0 q0_1 l0_2=some u0) (hK:∀ w1,Ho w0 w1 L→K (.bool u0) w1):CallsX P N.f_w16_InertiaDescartes #[.agg #[.int .i64 q0_0,.int .i64 q0_1,.slice q0_2 q0_2l q0_2c]] w K:=by
 refine H.w16_InertiaDescartes q0_0 q0_1 q0_2 q0_2l q0_2c w _ ?_
 unfold S_w16_InertiaDescartes
 unfold T_w16_InertiaDescartes at h
 try dsimp only
 replace hS:=hS.voidItem
 refine newM_s hS ?_;intro r1 w hS
 refine ⟨_,hS.cel mp0 rfl,_,hS.cel mp0 rfl,_,_,_,hS.cel mp0 rfl,?_⟩
 obtain ⟨t1,ht1,h⟩:=bnd h
 refine wk_w16_great H hS (hq0_2.mono tl2) (gq0_2.mono tl2) ht1 ?_;rintro w hS
 refine ⟨_,rfl,?_⟩
 refine cond_s h ?_ ?_<;>intro hc h
 ·
  obtain ⟨t2,ht2,h⟩:=bnd h
  refine wk_w16_awake H hS  ht2 ?_;rintro w hS
  refine ⟨_,rfl,?_⟩
  cases some_inj h
  exact hK _ (hS.pick (A:=[_,_]) [] rfl)
 refine ⟨_,hS.cel mp0 rfl,_,hS.cel mp0 rfl,_,_,_,hS.cel mp0 rfl,?_⟩
 obtain ⟨⟨t3,t4,t5,t6⟩,ho3,h⟩:=bnd h
 refine wk_inertia_Signs H hS (hq0_2.mono tl2) (gq0_2.mono tl2) ho3 ?_;clear hS ho3;rintro w hS
 refine ⟨_,_,_,_,rfl,?_⟩
 refine newM_s hS ?_;intro r2 w hS
 refine stc_s hS rfl rfl ?_;intro w hS
 refine stc_s hS rfl rfl ?_;intro w hS
 refine stc_s hS rfl rfl ?_;intro w hS
 refine ⟨_,hS.cel mp1 rfl,_,hS.cel mp1 rfl,_,_,_,hS.cel mp1 rfl,?_⟩
 obtain ⟨⟨t7,t8⟩,ho7,h⟩:=bnd h
 refine wk_inertia_Poly H hS (hq0_2.mono tl3) (gq0_2.mono tl3) ho7 ?_;clear hS ho7;rintro a3 m3 c3 hh3 it3 w ed3 hS
 refine ⟨_,_,_,_,rfl,?_⟩
 replace ed3:=ed3 [it3] mp0
 replace hS:=ro4 hS
 replace hS:=ro2 hS
 replace hS:=hS.both
 replace ed3:=AllD.both (L:=[]) (y:=vd) (ed3.mono (incl_one mp0))
 refine ⟨_,hS.cel mp3 rfl,_,hS.cel mp3 rfl,_,_,_,hS.cel mp3 rfl,?_⟩
 obtain ⟨t9,ht9,h⟩:=bnd h
 refine wk_inertia_Symmetric H hS (hq0_2.mono tl4) (gq0_2.mono tl4) ht9 ?_;rintro w hS
 refine ⟨_,rfl,?_⟩
 refine cond_s h ?_ ?_<;>intro hc h
 ·
  refine cond_s h ?_ ?_<;>intro hc h
  ·
   refine cond_s h ?_ ?_<;>intro hc h
   ·
    refine ⟨_,hS.cel mp2 rfl,_,hS.cel mp2 rfl,_,hS.cel mp2 rfl,?_⟩
    refine cond_s h ?_ ?_<;>intro hc h
    ·
     obtain ⟨t10,ht10,h⟩:=bnd h
     obtain rfl:=lenD ht10 ed3.len ((Ent.sl mp1).now (fun _ h=>h) hS)
     refine cond_s h ?_ ?_<;>intro hc h
     ·
      obtain ⟨t11,ht11,h⟩:=bnd h
      refine wk_w16_awake H hS  ht11 ?_;rintro w hS
      refine ⟨_,rfl,?_⟩
      cases some_inj h
      exact hK _ (hS.pick (A:=[_,_,_,_]) [] rfl)
     cases some_inj h
     exact hK _ (hS.pick (A:=[_,_,_,_]) [] rfl)
    cases some_inj h
    exact hK _ (hS.pick (A:=[_,_,_,_]) [] rfl)
   cases some_inj h
   exact hK _ (hS.pick (A:=[_,_,_,_]) [] rfl)
  cases some_inj h
  exact hK _ (hS.pick (A:=[_,_,_,_]) [] rfl)
 obtain ⟨o4,h4,c4⟩:=bnd h
 refine cutM_i (fun s w=>∃ (t12:Bool),t12=o4∧s=(t12,())∧Ho w0 w ((sl a3 (m3*3) (c3*3) (dyC t7 hh3) N.t_Dyad)::(cl r2 [.int .i64 t3,.int .i64 t4,.int .i64 t5] N.t_Signs)::(cl r1 [.int .i64 q0_0,.int .i64 q0_1,.slice q0_2 q0_2l q0_2c] N.t_Dyads)::(both it3 vd)::L)) (fun J4 hJ4=>?_) ?_
 ·
  have h:=h4
  clear h4
  refine cond_s h ?_ ?_<;>intro hc h
  ·
   obtain rfl:=some_inj h
   exact hJ4 _ _ ⟨_,rfl,rfl,(hS.pick (A:=[_,_,_,_]) [1,1,1,0] rfl)⟩
  obtain rfl:=some_inj h
  exact hJ4 _ _ ⟨_,rfl,rfl,(hS.pick (A:=[_,_,_,_]) [1,1,1,0] rfl)⟩
 clear h4 hS
 rintro s w ⟨t12,rfl,rfl,hS⟩
 have h:=c4
 clear c4
 try dsimp only
 refine cond_s h ?_ ?_<;>intro hc h
 ·
  refine cond_s h ?_ ?_<;>intro hc h
  ·
   refine cond_s h ?_ ?_<;>intro hc h
   ·
    refine cond_s h ?_ ?_<;>intro hc h
    ·
     obtain ⟨t13,ht13,h⟩:=bnd h
     obtain rfl:=lenD ht13 ed3.len ((Ent.sl mp0).now (fun _ h=>h) hS)
     refine cond_s h ?_ ?_<;>intro hc h
     ·
      obtain ⟨t14,ht14,h⟩:=bnd h
      refine wk_w16_awake H hS  ht14 ?_;rintro w hS
      refine ⟨_,rfl,?_⟩
      cases some_inj h
      exact hK _ (hS.pick (A:=[_,_,_,_]) [] rfl)
     cases some_inj h
     exact hK _ (hS.pick (A:=[_,_,_,_]) [] rfl)
    cases some_inj h
    exact hK _ (hS.pick (A:=[_,_,_,_]) [] rfl)
   obtain ⟨t15,ht15,h⟩:=bnd h
   obtain rfl:=lenD ht15 ed3.len ((Ent.sl mp0).now (fun _ h=>h) hS)
   refine cond_s h ?_ ?_<;>intro hc h
   ·
    obtain ⟨t16,ht16,h⟩:=bnd h
    refine wk_w16_awake H hS  ht16 ?_;rintro w hS
    refine ⟨_,rfl,?_⟩
    cases some_inj h
    exact hK _ (hS.pick (A:=[_,_,_,_]) [] rfl)
   cases some_inj h
   exact hK _ (hS.pick (A:=[_,_,_,_]) [] rfl)
  cases some_inj h
  exact hK _ (hS.pick (A:=[_,_,_,_]) [] rfl)
 refine ⟨_,hS.cel mp2 rfl,?_⟩
 obtain ⟨o7,h7,c7⟩:=bnd h
 refine cutM_i (fun s w=>∃ (t17:Bool) (it6:It),t17=o7∧s=(t17,())∧AllD [it6] t7 hh3∧Ho w0 w ((sl a3 (m3*3) (c3*3) (dyC t7 hh3) N.t_Dyad)::(cl r2 [.int .i64 t3,.int .i64 t4,.int .i64 t5] N.t_Signs)::(cl r1 [.int .i64 q0_0,.int .i64 q0_1,.slice q0_2 q0_2l q0_2c] N.t_Dyads)::it6::L)) (fun J7 hJ7=>?_) ?_
 ·
  have h:=h7
  clear h7
  obtain ⟨t18,ht18,h⟩:=bnd h
  obtain rfl:=lenD ht18 ed3.len ((Ent.sl mp0).now (fun _ h=>h) hS)
  refine cond_s h ?_ ?_<;>intro hc h
  ·
   obtain ⟨t20,ht20,h⟩:=bnd h
   obtain rfl:=lenD ht20 ed3.len ((Ent.sl mp0).now (fun _ h=>h) hS)
   obtain ⟨t19,ht19,h⟩:=bnd h
   obtain ⟨rfl,q80,q81,q82⟩:=subE ht19
   refine ⟨(by first | exact q80 | omega),(by first | exact q81 | omega),?_⟩
   refine drM_s hS ?_;intro w hS
   obtain ⟨t21,ht21,h⟩:=bnd h
   obtain rfl:([1]:List Int)=t21:=some_inj ht21
   refine lit_s (ks:=[1]) (enc:=(Value.int .i64)) (m:=1) hS rfl rfl ?_;intro r9 w hS
   refine drM_s hS ?_;intro w hS
   obtain ⟨⟨t22,t23,t24⟩,ho22,h⟩:=bnd h
   refine wk_w16_of H hS (Ent.sl mp0) ho22 ?_;clear hS ho22;rintro a10 m10 c10 hh10 it10 w ed10 hS
   refine ⟨_,_,_,_,_,rfl,?_⟩
   replace ed10:=ed10 [it10] mp0
   replace hS:=ro6 hS
   replace hS:=ro2 hS
   replace hS:=hS.both
   replace ed10:=AllD.both (L:=[]) (y:=(both it3 vd)) (ed10.mono (incl_one mp0))
   replace ed3:=AllD.both (L:=[]) (x:=it10) (ed3.mono (incl_one mp1))
   refine drM_s hS ?_;intro w hS
   obtain ⟨t25,ht25,h⟩:=bnd h
   refine wk_k_SameDyads H hS (Ent.fromD (Ent.sl mp3) ed3.len q80 q81) ((AllD.part ed3 _ _).mono (incl_one mp0)) (Ent.sl mp1) (ed10.mono (incl_one mp0)) ht25 ?_;rintro w hS
   refine ⟨_,rfl,?_⟩
   refine cond_s h ?_ ?_<;>intro hc h
   ·
    refine ⟨_,hS.cel mp4 rfl,_,hS.cel mp4 rfl,_,hS.cel mp4 rfl,?_⟩
    refine drM_s hS ?_;intro w hS
    obtain rfl:=some_inj h
    exact hJ7 _ _ ⟨_,_,rfl,rfl,ed3,(hS.pick (A:=[_,_,_,_,_,_]) [3,3,3,0] rfl)⟩
   refine drM_s hS ?_;intro w hS
   obtain rfl:=some_inj h
   exact hJ7 _ _ ⟨_,_,rfl,rfl,ed3,(hS.pick (A:=[_,_,_,_,_,_]) [3,3,3,0] rfl)⟩
  refine drM_s hS ?_;intro w hS
  refine drM_s hS ?_;intro w hS
  refine drM_s hS ?_;intro w hS
  refine drM_s hS ?_;intro w hS
  obtain rfl:=some_inj h
  exact hJ7 _ _ ⟨_,_,rfl,rfl,ed3,hS⟩
 clear h7 hS
 rintro s w ⟨t17,it6,rfl,rfl,ed5,hS⟩
 have h:=c7
 clear c7
 try dsimp only
 refine cond_s h ?_ ?_<;>intro hc h
 ·
  cases some_inj h
  exact hK _ (hS.pick (A:=[_,_,_,_]) [] rfl)
 obtain ⟨o11,h11,c11⟩:=bnd h
 refine cutM_i (fun s w=>∃ (t26:Int) (t27:Int),(t26,t27)=o11∧s=(t26,t27,())∧Ho w0 w ((sl a3 (m3*3) (c3*3) (dyC t7 hh3) N.t_Dyad)::(cl r2 [.int .i64 t3,.int .i64 t4,.int .i64 t5] N.t_Signs)::(cl r1 [.int .i64 q0_0,.int .i64 q0_1,.slice q0_2 q0_2l q0_2c] N.t_Dyads)::it6::L)) (fun J11 hJ11=>?_) ?_
 ·
  have h:=h11
  clear h11
  refine iter_sim (fun s w t=>∃ (t28:Int) (t29:Int) (t30:Int) (t31:Int),(t28,t29,t30,t31)=t∧s=(t28,t29,t30,t31,())∧Ho w0 w ((sl a3 (m3*3) (c3*3) (dyC t7 hh3) N.t_Dyad)::(cl r2 [.int .i64 t3,.int .i64 t4,.int .i64 t5] N.t_Signs)::(cl r1 [.int .i64 q0_0,.int .i64 q0_1,.slice q0_2 q0_2l q0_2c] N.t_Dyads)::it6::L)) ?_ h ⟨_,_,_,_,rfl,rfl,hS⟩
  clear h hS
  rintro s w t X q ⟨t28,t29,t30,t31,rfl,rfl,hS⟩ h hX hO
  unfold T_w16_InertiaDescartes_b2 at h
  try dsimp only
  refine cond_s h ?_ ?_<;>intro hc h
  ·
   obtain ⟨o12,h12,c12⟩:=bnd h
   refine cutM_i (fun s w=>∃ (t32:Int) (t33:Int) (t34:Int),(t32,t33,t34)=o12∧s=(t32,t33,t34,())∧Ho w0 w ((sl a3 (m3*3) (c3*3) (dyC t7 hh3) N.t_Dyad)::(cl r2 [.int .i64 t3,.int .i64 t4,.int .i64 t5] N.t_Signs)::(cl r1 [.int .i64 q0_0,.int .i64 q0_1,.slice q0_2 q0_2l q0_2c] N.t_Dyads)::it6::L)) (fun J12 hJ12=>?_) ?_
   ·
    have h:=h12
    clear h12
    obtain ⟨t35,ht35,h⟩:=bnd h
    obtain ⟨gq13,q13x,q13k,q13l,q13r,q13e⟩:=AllD.atE ed5 ht35
    refine idxD_s ed5.len ((Ent.sl mp0).now (fun _ h=>h) hS) q13l q13r ?_;intro b14 hb14
    refine ⟨_,(rdD0 ((Ent.sl mp0).now (fun _ h=>h) hS) hb14 q13k q13x),?_⟩
    refine ⟨_,_,_,(rdD1 ((Ent.sl mp0).now (fun _ h=>h) hS) hb14 q13k q13x),?_⟩
    refine ⟨_,(rdD2 ((Ent.sl mp0).now (fun _ h=>h) hS) hb14 q13k q13x),?_⟩
    obtain ⟨t36,ht36,h⟩:=bnd h
    refine wk_w16_sign H hS (q13e.mono (incl_one mp3)) ht36 ?_;rintro w hS
    refine ⟨_,rfl,?_⟩
    refine cond_s h ?_ ?_<;>intro hc h
    ·
     obtain ⟨o15,h15,c15⟩:=bnd h
     refine cutM_i (fun s w=>∃ (t37:Int),t37=o15∧s=(t37,())∧Ho w0 w ((sl a3 (m3*3) (c3*3) (dyC t7 hh3) N.t_Dyad)::(cl r2 [.int .i64 t3,.int .i64 t4,.int .i64 t5] N.t_Signs)::(cl r1 [.int .i64 q0_0,.int .i64 q0_1,.slice q0_2 q0_2l q0_2c] N.t_Dyads)::it6::L)) (fun J15 hJ15=>?_) ?_
     ·
      have h:=h15
      clear h15
      refine cond_s h ?_ ?_<;>intro hc h
      ·
       exact hJ15 _ _ ⟨_,some_inj h,rfl,hS⟩
      exact hJ15 _ _ ⟨_,some_inj h,rfl,hS⟩
     clear h15 hS
     rintro s w ⟨t37,rfl,rfl,hS⟩
     have h:=c15
     clear c15
     try dsimp only
     refine cond_s h ?_ ?_<;>intro hc h
     ·
      refine cond_s h ?_ ?_<;>intro hc h
      ·
       obtain ⟨o16,h16,c16⟩:=bnd h
       refine cutM_i (fun s w=>∃ (t38:Int),t38=o16∧s=(t38,())∧Ho w0 w ((sl a3 (m3*3) (c3*3) (dyC t7 hh3) N.t_Dyad)::(cl r2 [.int .i64 t3,.int .i64 t4,.int .i64 t5] N.t_Signs)::(cl r1 [.int .i64 q0_0,.int .i64 q0_1,.slice q0_2 q0_2l q0_2c] N.t_Dyads)::it6::L)) (fun J16 hJ16=>?_) ?_
       ·
        have h:=h16
        clear h16
        refine cond_s h ?_ ?_<;>intro hc h
        ·
         exact hJ16 _ _ ⟨_,some_inj h,rfl,hS⟩
        exact hJ16 _ _ ⟨_,some_inj h,rfl,hS⟩
       clear h16 hS
       rintro s w ⟨t38,rfl,rfl,hS⟩
       have h:=c16
       clear c16
       try dsimp only
       obtain ⟨o17,h17,c17⟩:=bnd h
       refine cutM_i (fun s w=>∃ (t39:Int),t39=o17∧s=(t39,())∧Ho w0 w ((sl a3 (m3*3) (c3*3) (dyC t7 hh3) N.t_Dyad)::(cl r2 [.int .i64 t3,.int .i64 t4,.int .i64 t5] N.t_Signs)::(cl r1 [.int .i64 q0_0,.int .i64 q0_1,.slice q0_2 q0_2l q0_2c] N.t_Dyads)::it6::L)) (fun J17 hJ17=>?_) ?_
       ·
        have h:=h17
        clear h17
        refine cond_s h ?_ ?_<;>intro hc h
        ·
         exact hJ17 _ _ ⟨_,some_inj h,rfl,hS⟩
        exact hJ17 _ _ ⟨_,some_inj h,rfl,hS⟩
       clear h17 hS
       rintro s w ⟨t39,rfl,rfl,hS⟩
       have h:=c17
       clear c17
       try dsimp only
       exact hJ12 _ _ ⟨_,_,_,some_inj h,rfl,hS⟩
      obtain ⟨o18,h18,c18⟩:=bnd h
      refine cutM_i (fun s w=>∃ (t40:Int),t40=o18∧s=(t40,())∧Ho w0 w ((sl a3 (m3*3) (c3*3) (dyC t7 hh3) N.t_Dyad)::(cl r2 [.int .i64 t3,.int .i64 t4,.int .i64 t5] N.t_Signs)::(cl r1 [.int .i64 q0_0,.int .i64 q0_1,.slice q0_2 q0_2l q0_2c] N.t_Dyads)::it6::L)) (fun J18 hJ18=>?_) ?_
      ·
       have h:=h18
       clear h18
       exact hJ18 _ _ ⟨_,some_inj h,rfl,hS⟩
      clear h18 hS
      rintro s w ⟨t40,rfl,rfl,hS⟩
      have h:=c18
      clear c18
      try dsimp only
      obtain ⟨o19,h19,c19⟩:=bnd h
      refine cutM_i (fun s w=>∃ (t41:Int),t41=o19∧s=(t41,())∧Ho w0 w ((sl a3 (m3*3) (c3*3) (dyC t7 hh3) N.t_Dyad)::(cl r2 [.int .i64 t3,.int .i64 t4,.int .i64 t5] N.t_Signs)::(cl r1 [.int .i64 q0_0,.int .i64 q0_1,.slice q0_2 q0_2l q0_2c] N.t_Dyads)::it6::L)) (fun J19 hJ19=>?_) ?_
      ·
       have h:=h19
       clear h19
       refine cond_s h ?_ ?_<;>intro hc h
       ·
        exact hJ19 _ _ ⟨_,some_inj h,rfl,hS⟩
       exact hJ19 _ _ ⟨_,some_inj h,rfl,hS⟩
      clear h19 hS
      rintro s w ⟨t41,rfl,rfl,hS⟩
      have h:=c19
      clear c19
      try dsimp only
      exact hJ12 _ _ ⟨_,_,_,some_inj h,rfl,hS⟩
     obtain ⟨o20,h20,c20⟩:=bnd h
     refine cutM_i (fun s w=>∃ (t42:Int),t42=o20∧s=(t42,())∧Ho w0 w ((sl a3 (m3*3) (c3*3) (dyC t7 hh3) N.t_Dyad)::(cl r2 [.int .i64 t3,.int .i64 t4,.int .i64 t5] N.t_Signs)::(cl r1 [.int .i64 q0_0,.int .i64 q0_1,.slice q0_2 q0_2l q0_2c] N.t_Dyads)::it6::L)) (fun J20 hJ20=>?_) ?_
     ·
      have h:=h20
      clear h20
      exact hJ20 _ _ ⟨_,some_inj h,rfl,hS⟩
     clear h20 hS
     rintro s w ⟨t42,rfl,rfl,hS⟩
     have h:=c20
     clear c20
     try dsimp only
     obtain ⟨o21,h21,c21⟩:=bnd h
     refine cutM_i (fun s w=>∃ (t43:Int),t43=o21∧s=(t43,())∧Ho w0 w ((sl a3 (m3*3) (c3*3) (dyC t7 hh3) N.t_Dyad)::(cl r2 [.int .i64 t3,.int .i64 t4,.int .i64 t5] N.t_Signs)::(cl r1 [.int .i64 q0_0,.int .i64 q0_1,.slice q0_2 q0_2l q0_2c] N.t_Dyads)::it6::L)) (fun J21 hJ21=>?_) ?_
     ·
      have h:=h21
      clear h21
      refine cond_s h ?_ ?_<;>intro hc h
      ·
       exact hJ21 _ _ ⟨_,some_inj h,rfl,hS⟩
      exact hJ21 _ _ ⟨_,some_inj h,rfl,hS⟩
     clear h21 hS
     rintro s w ⟨t43,rfl,rfl,hS⟩
     have h:=c21
     clear c21
     try dsimp only
     exact hJ12 _ _ ⟨_,_,_,some_inj h,rfl,hS⟩
    obtain ⟨o22,h22,c22⟩:=bnd h
    refine cutM_i (fun s w=>∃ (t44:Int),t44=o22∧s=(t44,())∧Ho w0 w ((sl a3 (m3*3) (c3*3) (dyC t7 hh3) N.t_Dyad)::(cl r2 [.int .i64 t3,.int .i64 t4,.int .i64 t5] N.t_Signs)::(cl r1 [.int .i64 q0_0,.int .i64 q0_1,.slice q0_2 q0_2l q0_2c] N.t_Dyads)::it6::L)) (fun J22 hJ22=>?_) ?_
    ·
     have h:=h22
     clear h22
     exact hJ22 _ _ ⟨_,some_inj h,rfl,hS⟩
    clear h22 hS
    rintro s w ⟨t44,rfl,rfl,hS⟩
    have h:=c22
    clear c22
    try dsimp only
    refine cond_s h ?_ ?_<;>intro hc h
    ·
     refine cond_s h ?_ ?_<;>intro hc h
     ·
      obtain ⟨o23,h23,c23⟩:=bnd h
      refine cutM_i (fun s w=>∃ (t45:Int),t45=o23∧s=(t45,())∧Ho w0 w ((sl a3 (m3*3) (c3*3) (dyC t7 hh3) N.t_Dyad)::(cl r2 [.int .i64 t3,.int .i64 t4,.int .i64 t5] N.t_Signs)::(cl r1 [.int .i64 q0_0,.int .i64 q0_1,.slice q0_2 q0_2l q0_2c] N.t_Dyads)::it6::L)) (fun J23 hJ23=>?_) ?_
      ·
       have h:=h23
       clear h23
       refine cond_s h ?_ ?_<;>intro hc h
       ·
        exact hJ23 _ _ ⟨_,some_inj h,rfl,hS⟩
       exact hJ23 _ _ ⟨_,some_inj h,rfl,hS⟩
      clear h23 hS
      rintro s w ⟨t45,rfl,rfl,hS⟩
      have h:=c23
      clear c23
      try dsimp only
      obtain ⟨o24,h24,c24⟩:=bnd h
      refine cutM_i (fun s w=>∃ (t46:Int),t46=o24∧s=(t46,())∧Ho w0 w ((sl a3 (m3*3) (c3*3) (dyC t7 hh3) N.t_Dyad)::(cl r2 [.int .i64 t3,.int .i64 t4,.int .i64 t5] N.t_Signs)::(cl r1 [.int .i64 q0_0,.int .i64 q0_1,.slice q0_2 q0_2l q0_2c] N.t_Dyads)::it6::L)) (fun J24 hJ24=>?_) ?_
      ·
       have h:=h24
       clear h24
       refine cond_s h ?_ ?_<;>intro hc h
       ·
        exact hJ24 _ _ ⟨_,some_inj h,rfl,hS⟩
       exact hJ24 _ _ ⟨_,some_inj h,rfl,hS⟩
      clear h24 hS
      rintro s w ⟨t46,rfl,rfl,hS⟩
      have h:=c24
      clear c24
      try dsimp only
      exact hJ12 _ _ ⟨_,_,_,some_inj h,rfl,hS⟩
     obtain ⟨o25,h25,c25⟩:=bnd h
     refine cutM_i (fun s w=>∃ (t47:Int),t47=o25∧s=(t47,())∧Ho w0 w ((sl a3 (m3*3) (c3*3) (dyC t7 hh3) N.t_Dyad)::(cl r2 [.int .i64 t3,.int .i64 t4,.int .i64 t5] N.t_Signs)::(cl r1 [.int .i64 q0_0,.int .i64 q0_1,.slice q0_2 q0_2l q0_2c] N.t_Dyads)::it6::L)) (fun J25 hJ25=>?_) ?_
     ·
      have h:=h25
      clear h25
      exact hJ25 _ _ ⟨_,some_inj h,rfl,hS⟩
     clear h25 hS
     rintro s w ⟨t47,rfl,rfl,hS⟩
     have h:=c25
     clear c25
     try dsimp only
     obtain ⟨o26,h26,c26⟩:=bnd h
     refine cutM_i (fun s w=>∃ (t48:Int),t48=o26∧s=(t48,())∧Ho w0 w ((sl a3 (m3*3) (c3*3) (dyC t7 hh3) N.t_Dyad)::(cl r2 [.int .i64 t3,.int .i64 t4,.int .i64 t5] N.t_Signs)::(cl r1 [.int .i64 q0_0,.int .i64 q0_1,.slice q0_2 q0_2l q0_2c] N.t_Dyads)::it6::L)) (fun J26 hJ26=>?_) ?_
     ·
      have h:=h26
      clear h26
      refine cond_s h ?_ ?_<;>intro hc h
      ·
       exact hJ26 _ _ ⟨_,some_inj h,rfl,hS⟩
      exact hJ26 _ _ ⟨_,some_inj h,rfl,hS⟩
     clear h26 hS
     rintro s w ⟨t48,rfl,rfl,hS⟩
     have h:=c26
     clear c26
     try dsimp only
     exact hJ12 _ _ ⟨_,_,_,some_inj h,rfl,hS⟩
    obtain ⟨o27,h27,c27⟩:=bnd h
    refine cutM_i (fun s w=>∃ (t49:Int),t49=o27∧s=(t49,())∧Ho w0 w ((sl a3 (m3*3) (c3*3) (dyC t7 hh3) N.t_Dyad)::(cl r2 [.int .i64 t3,.int .i64 t4,.int .i64 t5] N.t_Signs)::(cl r1 [.int .i64 q0_0,.int .i64 q0_1,.slice q0_2 q0_2l q0_2c] N.t_Dyads)::it6::L)) (fun J27 hJ27=>?_) ?_
    ·
     have h:=h27
     clear h27
     exact hJ27 _ _ ⟨_,some_inj h,rfl,hS⟩
    clear h27 hS
    rintro s w ⟨t49,rfl,rfl,hS⟩
    have h:=c27
    clear c27
    try dsimp only
    obtain ⟨o28,h28,c28⟩:=bnd h
    refine cutM_i (fun s w=>∃ (t50:Int),t50=o28∧s=(t50,())∧Ho w0 w ((sl a3 (m3*3) (c3*3) (dyC t7 hh3) N.t_Dyad)::(cl r2 [.int .i64 t3,.int .i64 t4,.int .i64 t5] N.t_Signs)::(cl r1 [.int .i64 q0_0,.int .i64 q0_1,.slice q0_2 q0_2l q0_2c] N.t_Dyads)::it6::L)) (fun J28 hJ28=>?_) ?_
    ·
     have h:=h28
     clear h28
     refine cond_s h ?_ ?_<;>intro hc h
     ·
      exact hJ28 _ _ ⟨_,some_inj h,rfl,hS⟩
     exact hJ28 _ _ ⟨_,some_inj h,rfl,hS⟩
    clear h28 hS
    rintro s w ⟨t50,rfl,rfl,hS⟩
    have h:=c28
    clear c28
    try dsimp only
    exact hJ12 _ _ ⟨_,_,_,some_inj h,rfl,hS⟩
   clear h12 hS
   rintro s w ⟨t32,t33,t34,rfl,rfl,hS⟩
   have h:=c12
   clear c12
   try dsimp only
   obtain rfl:=some_inj h
   exact hX _ rfl _ _ ⟨_,_,_,_,rfl,rfl,hS⟩
  obtain rfl:=some_inj h
  have h:=congrArg some (hO _ rfl)
  exact hJ11 _ _ ⟨_,_,some_inj h,rfl,hS⟩
 clear h11 hS
 rintro s w ⟨t26,t27,rfl,rfl,hS⟩
 have h:=c11
 clear c11
 try dsimp only
 obtain ⟨o29,h29,c29⟩:=bnd h
 refine cutM_i (fun s w=>∃ (t51:Bool),t51=o29∧s=(t51,())∧Ho w0 w ((sl a3 (m3*3) (c3*3) (dyC t7 hh3) N.t_Dyad)::(cl r1 [.int .i64 q0_0,.int .i64 q0_1,.slice q0_2 q0_2l q0_2c] N.t_Dyads)::it6::L)) (fun J29 hJ29=>?_) ?_
 ·
  have h:=h29
  clear h29
  refine ⟨_,hS.cel mp1 rfl,?_⟩
  refine cond_s h ?_ ?_<;>intro hc h
  ·
   refine ⟨_,hS.cel mp1 rfl,?_⟩
   obtain rfl:=some_inj h
   exact hJ29 _ _ ⟨_,rfl,rfl,(hS.pick (A:=[_,_,_,_]) [0,1,1] rfl)⟩
  obtain rfl:=some_inj h
  exact hJ29 _ _ ⟨_,rfl,rfl,(hS.pick (A:=[_,_,_,_]) [0,1,1] rfl)⟩
 clear h29 hS
 rintro s w ⟨t51,rfl,rfl,hS⟩
 have h:=c29
 clear c29
 try dsimp only
 refine cond_s h ?_ ?_<;>intro hc h
 ·
  cases some_inj h
  exact hK _ (hS.pick (A:=[_,_,_]) [] rfl)
 refine cond_s h ?_ ?_<;>intro hc h
 ·
  obtain ⟨t52,ht52,h⟩:=bnd h
  refine wk_w16_awake H hS  ht52 ?_;rintro w hS
  refine ⟨_,rfl,?_⟩
  cases some_inj h
  exact hK _ (hS.pick (A:=[_,_,_]) [] rfl)
 obtain ⟨⟨t53,t54,t55⟩,ho53,h⟩:=bnd h
 refine wk_dyad_Int H hS  ho53 ?_;clear hS ho53;rintro a30 m30 c30 w hS
 refine ⟨_,_,_,_,_,rfl,?_⟩
 refine newM_s hS ?_;intro r31 w hS
 refine stc_s hS rfl rfl ?_;intro w hS
 refine stc_s hS rfl rfl ?_;intro w hS
 refine stc_s hS rfl rfl ?_;intro w hS
 obtain ⟨o35,h35,c35⟩:=bnd h
 refine cutM_i (fun s w=>∃ (t56:Bool) (t57:Int) (a32:Option Addr) (m33:Nat) (c34:Nat) (t58:List Int),.inl (t56,t57,t58)=o35∧s=(())∧Ho w0 w ((cl r31 [.bool t56,.slice a32 m33 c34,.int .i64 t57] N.t_Dyad)::(sl a3 (m3*3) (c3*3) (dyC t7 hh3) N.t_Dyad)::(sl a32 m33 c34 (List.map (Value.int .u64) t58) N.t_uint64)::it6::L)) (fun J35 hJ35=>?_) ?_
 ·
  have h:=h35
  clear h35
  refine iter_sim (fun s w t=>∃ (t59:Int) (t60:Bool) (t61:Int) (a36:Option Addr) (m37:Nat) (c38:Nat) (t62:List Int),(t59,t60,t61,t62)=t∧s=(t59,())∧Ho w0 w ((cl r31 [.bool t60,.slice a36 m37 c38,.int .i64 t61] N.t_Dyad)::(sl a3 (m3*3) (c3*3) (dyC t7 hh3) N.t_Dyad)::(cl r1 [.int .i64 q0_0,.int .i64 q0_1,.slice q0_2 q0_2l q0_2c] N.t_Dyads)::it6::(sl a36 m37 c38 (List.map (Value.int .u64) t62) N.t_uint64)::L)) ?_ h ⟨_,_,_,_,_,_,_,rfl,rfl,(hS.pick (A:=[_,_,_,_,_]) [0,1,1,1,0] rfl)⟩
  clear h hS
  rintro s w t X q ⟨t59,t60,t61,a36,m37,c38,t62,rfl,rfl,hS⟩ h hX hO
  unfold T_w16_InertiaDescartes_b4 at h
  try dsimp only
  refine cond_s h ?_ ?_<;>intro hc h
  ·
   refine ⟨_,hS.cel mp0 rfl,_,_,_,hS.cel mp0 rfl,_,hS.cel mp0 rfl,_,_,_,hS.cel mp2 rfl,?_⟩
   obtain ⟨t63,ht63,h⟩:=bnd h
   obtain ⟨gq39,q39x,q39k,q39l,q39r,q39e⟩:=AllD.atE gq0_2 ht63
   refine idxD_s gq0_2.len ((hq0_2.mono tl5).now (fun _ h=>h) hS) q39l q39r ?_;intro b40 hb40
   refine ⟨_,(rdD0 ((hq0_2.mono tl5).now (fun _ h=>h) hS) hb40 q39k q39x),?_⟩
   refine ⟨_,_,_,(rdD1 ((hq0_2.mono tl5).now (fun _ h=>h) hS) hb40 q39k q39x),?_⟩
   refine ⟨_,(rdD2 ((hq0_2.mono tl5).now (fun _ h=>h) hS) hb40 q39k q39x),?_⟩
   refine ⟨?_,?_⟩
   ·
    refine drM_s hS ?_;intro w hS
    obtain ⟨⟨t64,t65,t66,t67⟩,ho64,h⟩:=bnd h
    refine wk_dyad_Add H hS (Ent.sl mp4) (q39e.mono tl5) ho64 ?_;clear hS ho64;rintro a41 m41 c41 w hS
    refine ⟨_,_,_,_,_,_,rfl,?_⟩
    refine drM_s hS ?_;intro w hS
    refine newM_s hS ?_;intro r42 w hS
    refine drM_s hS ?_;intro w hS
    refine stc_s hS rfl rfl ?_;intro w hS
    refine stc_s hS rfl rfl ?_;intro w hS
    refine stc_s hS rfl rfl ?_;intro w hS
    refine drM_s hS ?_;intro w hS
    refine cond_s h ?_ ?_<;>intro hc h
    ·
     obtain ⟨t68,ht68,h⟩:=bnd h
     refine wk_w16_awake H hS  ht68 ?_;rintro w hS
     refine ⟨_,rfl,?_⟩
     obtain rfl:=some_inj h
     have h:=congrArg some (hO _ rfl)
     obtain rfl:=some_inj h
     have h:=c35
     cases some_inj h
     exact hK _ (hS.pick (A:=[_,_,_,_,_,_,_]) [] rfl)
    refine ⟨_,hS.cel mp0 rfl,_,_,_,hS.cel mp0 rfl,_,hS.cel mp0 rfl,?_⟩
    replace hS:=ro2 hS
    refine stc_s hS rfl rfl ?_;intro w hS
    refine stc_s hS rfl rfl ?_;intro w hS
    refine stc_s hS rfl rfl ?_;intro w hS
    obtain rfl:=some_inj h
    exact hX _ rfl _ _ ⟨_,_,_,_,_,_,_,rfl,rfl,(hS.pick (A:=[_,_,_,_,_,_,_]) [0,2,2,2,1] rfl)⟩
   refine drM_s hS ?_;intro w hS
   refine newM_s hS ?_;intro r43 w hS
   refine ⟨rdD0 ((hq0_2.mono tl6).now (fun _ h=>h) hS) hb40 q39k q39x,?_⟩
   refine ⟨rdD1 ((hq0_2.mono tl6).now (fun _ h=>h) hS) hb40 q39k q39x,?_⟩
   refine ⟨rdD2 ((hq0_2.mono tl6).now (fun _ h=>h) hS) hb40 q39k q39x,?_⟩
   refine ⟨(hS.cel mp3 rfl),?_⟩
   refine ⟨(hS.cel mp1 rfl),?_⟩
   refine ⟨(hS.cel mp1 rfl),?_⟩
   refine ⟨(hS.cel mp1 rfl),?_⟩
   refine drM_s hS ?_;intro w hS
   obtain ⟨⟨t64,t65,t66,t67⟩,ho64,h⟩:=bnd h
   refine wk_dyad_Add H hS (Ent.sl mp5) (q39e.mono tl6) ho64 ?_;clear hS ho64;rintro a44 m44 c44 w hS
   refine ⟨_,_,_,_,_,_,rfl,?_⟩
   refine drM_s hS ?_;intro w hS
   replace hS:=ro1 hS
   refine stc_s hS rfl rfl ?_;intro w hS
   refine stc_s hS rfl rfl ?_;intro w hS
   refine stc_s hS rfl rfl ?_;intro w hS
   refine drM_s hS ?_;intro w hS
   refine cond_s h ?_ ?_<;>intro hc h
   ·
    obtain ⟨t68,ht68,h⟩:=bnd h
    refine wk_w16_awake H hS  ht68 ?_;rintro w hS
    refine ⟨_,rfl,?_⟩
    obtain rfl:=some_inj h
    have h:=congrArg some (hO _ rfl)
    obtain rfl:=some_inj h
    have h:=c35
    cases some_inj h
    exact hK _ (hS.pick (A:=[_,_,_,_,_,_,_]) [] rfl)
   refine ⟨_,hS.cel mp0 rfl,_,_,_,hS.cel mp0 rfl,_,hS.cel mp0 rfl,?_⟩
   replace hS:=ro2 hS
   refine stc_s hS rfl rfl ?_;intro w hS
   refine stc_s hS rfl rfl ?_;intro w hS
   refine stc_s hS rfl rfl ?_;intro w hS
   obtain rfl:=some_inj h
   exact hX _ rfl _ _ ⟨_,_,_,_,_,_,_,rfl,rfl,(hS.pick (A:=[_,_,_,_,_,_,_]) [0,2,2,2,1] rfl)⟩
  obtain rfl:=some_inj h
  have h:=congrArg some (hO _ rfl)
  obtain rfl:=some_inj h
  exact hJ35 _ _ ⟨_,_,_,_,_,_,rfl,rfl,(hS.pick (A:=[_,_,_,_,_]) [0,0,2,1] rfl)⟩
 clear h35 hS
 rintro s w ⟨t56,t57,a32,m33,c34,t58,rfl,rfl,hS⟩
 have h:=c35
 clear c35
 try dsimp only
 refine ⟨_,hS.cel mp0 rfl,_,_,_,hS.cel mp0 rfl,_,hS.cel mp0 rfl,?_⟩
 obtain ⟨⟨t69,t70,t71,t72⟩,ho69,h⟩:=bnd h
 refine wk_dyad_Neg H hS (Ent.sl mp2) ho69 ?_;clear hS ho69;rintro a45 m45 c45 w hS
 refine ⟨_,_,_,_,_,_,rfl,?_⟩
 refine newM_s hS ?_;intro r46 w hS
 refine stc_s hS rfl rfl ?_;intro w hS
 refine stc_s hS rfl rfl ?_;intro w hS
 refine stc_s hS rfl rfl ?_;intro w hS
 refine cond_s h ?_ ?_<;>intro hc h
 ·
  refine ⟨_,hS.cel mp0 rfl,_,_,_,hS.cel mp0 rfl,_,hS.cel mp0 rfl,?_⟩
  obtain ⟨t73,ht73,h⟩:=bnd h
  obtain ⟨rfl,q470,q471,q472⟩:=subE ht73
  have q473:=((Ent.sl mp3).now (fun _ h=>h) hS).hiCapD ed5.len q472
  refine ⟨(by first | exact Int.le_trans q470 q471 | omega),(by first | exact q473 | omega),(by first | exact q470 | omega),(by first | exact q471 | omega),?_⟩
  refine drM_s hS ?_;intro w hS
  replace hS:=ro1 hS
  have hz48:Ent [sl a45 m45 c45 (List.map (Value.int .u64) t70) N.t_uint64] (rdA (List.map (Value.int .u64) t70) a45 m45 c45):=(Ent.sl (L:=[sl a45 m45 c45 (List.map (Value.int .u64) t70) N.t_uint64]) mp0)
  replace hS:=ro5 hS
  replace hS:=ro1 hS
  replace hS:=hS.both
  replace hz48:=Ent.both (L:=[]) (y:=it6) (hz48.mono (incl_one mp0))
  replace ed5:=AllD.both (L:=[]) (x:=(sl a45 m45 c45 (List.map (Value.int .u64) t70) N.t_uint64)) (ed5.mono (incl_one mp1))
  obtain ⟨t74,ht74,h⟩:=bnd h
  obtain rfl:([(t69,t70,t71)]:List Dy)=t74:=some_inj ht74
  have ed50:AllD [(both (sl a45 m45 c45 (List.map (Value.int .u64) t70) N.t_uint64) it6)] ([(t69,t70,t71)]:List Dy) ([(a45,m45,c45)]:List Hd):=(.cons hz48 .nil)
  refine litD_s (X:=([(t69,t70,t71)]:List Dy)) (H:=([(a45,m45,c45)]:List Hd)) (m:=1) hS rfl rfl rfl ?_;intro r49 w hS
  refine drM_s hS ?_;intro w hS
  obtain ⟨t75,ht75,h⟩:=bnd h
  refine wk_k_SameDyads H hS (Ent.sl mp0) (ed50.mono (incl_one mp1)) (Ent.partD (Ent.sl mp4) ed5.len q470 q471 q472) ((AllD.part ed5 _ _).mono (incl_one mp1)) ht75 ?_;rintro w hS
  refine ⟨_,rfl,?_⟩
  refine drM_s hS ?_;intro w hS
  refine cond_s h ?_ ?_<;>intro hc h
  ·
   obtain ⟨t76,ht76,h⟩:=bnd h
   refine wk_w16_awake H hS  ht76 ?_;rintro w hS
   refine ⟨_,rfl,?_⟩
   refine drM_s hS ?_;intro w hS
   cases some_inj h
   exact hK _ (hS.pick (A:=[_,_,_,_,_,_]) [] rfl)
  refine drM_s hS ?_;intro w hS
  cases some_inj h
  exact hK _ (hS.pick (A:=[_,_,_,_,_,_]) [] rfl)
 refine drM_s hS ?_;intro w hS
 refine drM_s hS ?_;intro w hS
 refine drM_s hS ?_;intro w hS
 refine drM_s hS ?_;intro w hS
 cases some_inj h
 exact hK _ (hS.pick (A:=[_,_,_,_,_,_]) [] rfl)
end Go.Eng
