/-
 Each function comes to what its function of plain Lean says, printed by a program of the session. No condition.
-/
import Derived.Test.YtlnelldekejadaaTpL
import Derived.Test.YtlnelldekejadaaWk
set_option linter.all false
set_option maxRecDepth 100000
set_option maxHeartbeats 4000000
namespace Go.Eng
open Go
variable {N:Nums} {P:Program} (H:AllOk N P) {w0 w:World} {L:List It} {K:Value→World→Prop}
include H
theorem wk_inertia_Signs {q0_0 q0_1 q0_2 q0_2l q0_2c} {H0_2:List Hd} {l0_2:List Dy} {u0 u1 u2 u3} (hS:Ho w0 w L) (hq0_2:Ent L (rdA (dyC l0_2 H0_2) q0_2 (q0_2l*3) (q0_2c*3))) (gq0_2:AllD L l0_2 H0_2) (hx:T_inertia_Signs q0_0 q0_1 l0_2=some (u0,u1,u2,u3)) (hK:∀ w1,Ho w0 w1 L→K (.tuple #[.agg #[.int .i64 u0,.int .i64 u1,.int .i64 u2],.int .i64 u3]) w1):CallsX P N.f_inertia_Signs #[.agg #[.int .i64 q0_0,.int .i64 q0_1,.slice q0_2 q0_2l q0_2c]] w K:=by
 unfold T_inertia_Signs at hx
 exact wkH_Signs H hS hq0_2 gq0_2 hx hK
theorem wk_inertia_Poly {q0_0 q0_1 q0_2 q0_2l q0_2c} {H0_2:List Hd} {l0_2:List Dy} {u0:List Dy} {u1} (hS:Ho w0 w L) (hq0_2:Ent L (rdA (dyC l0_2 H0_2) q0_2 (q0_2l*3) (q0_2c*3))) (gq0_2:AllD L l0_2 H0_2) (hx:T_inertia_Poly q0_0 q0_1 l0_2=some (u0,u1)) (hK:∀ (a0:Option Addr) (n0 c0:Nat) (hh0:List Hd) (it0:It) (w1:World),(∀ L1,it0∈L1→AllD L1 u0 hh0)→Ho w0 w1 ((sl a0 (n0*3) (c0*3) (dyC u0 hh0) N.t_Dyad)::it0::L)→K (.tuple #[.slice a0 n0 c0,.int .i64 u1]) w1):CallsX P N.f_inertia_Poly #[.agg #[.int .i64 q0_0,.int .i64 q0_1,.slice q0_2 q0_2l q0_2c]] w K:=by
 unfold T_inertia_Poly at hx
 exact wkH_Poly H hS hq0_2 gq0_2 hx hK
theorem wk_inertia_Below {q0_0 q0_1 q0_2 q0_2l q0_2c} {H0_2:List Hd} {l0_2:List Dy} {q1_0 q1_1 q1_1l q1_1c l1_1 q1_2 u0 u1} (hS:Ho w0 w L) (hq0_2:Ent L (rdA (dyC l0_2 H0_2) q0_2 (q0_2l*3) (q0_2c*3))) (gq0_2:AllD L l0_2 H0_2) (hq1_1:EU L l1_1 q1_1 q1_1l q1_1c) (hx:T_inertia_Below q0_0 q0_1 l0_2 q1_0 l1_1 q1_2=some (u0,u1)) (hK:∀ w1,Ho w0 w1 L→K (.tuple #[.int .i64 u0,.int .i64 u1]) w1):CallsX P N.f_inertia_Below #[.agg #[.int .i64 q0_0,.int .i64 q0_1,.slice q0_2 q0_2l q0_2c],.agg #[.bool q1_0,.slice q1_1 q1_1l q1_1c,.int .i64 q1_2]] w K:=by
 unfold T_inertia_Below at hx
 exact wkH_Below H hS hq0_2 gq0_2 hq1_1 hx hK
theorem wk_w16_awake  {u0} (hS:Ho w0 w L)  (h:T_w16_awake  = some u0) (hK:∀ w1,Ho w0 w1 L→K (.bool u0) w1):CallsX P N.f_w16_awake #[] w K:=by
 refine H.w16_awake  w _ ?_
 unfold S_w16_awake
 unfold T_w16_awake at h
 try dsimp only
 replace hS:=hS.voidItem
 obtain ⟨t1,ht1,h⟩:=bnd h
 obtain rfl:([1,2,2,1]:List Int)=t1:=some_inj ht1
 refine lit_s (ks:=[1,2,2,1]) (enc:=(Value.int .i64)) (m:=4) hS rfl rfl ?_;intro r1 w hS
 obtain ⟨⟨t2,t3,t4⟩,ho2,h⟩:=bnd h
 refine wk_w16_of H hS (Ent.sl mp0) ho2 ?_;clear hS ho2;rintro a2 m2 c2 hh2 it2 w ed2 hS
 refine ⟨_,_,_,_,_,rfl,?_⟩
 replace ed2:=ed2 [it2] mp0
 replace hS:=ro3 hS
 replace hS:=ro2 hS
 replace hS:=hS.both
 replace ed2:=AllD.both (L:=[]) (y:=vd) (ed2.mono (incl_one mp0))
 obtain ⟨⟨t5,t6,t7,t8⟩,ho5,h⟩:=bnd h
 refine wk_inertia_Signs H hS (Ent.sl mp1) (ed2.mono (incl_one mp0)) ho5 ?_;clear hS ho5;rintro w hS
 refine ⟨_,_,_,_,rfl,?_⟩
 refine newM_s hS ?_;intro r3 w hS
 refine stc_s hS rfl rfl ?_;intro w hS
 refine stc_s hS rfl rfl ?_;intro w hS
 refine stc_s hS rfl rfl ?_;intro w hS
 obtain ⟨t9,ht9,h⟩:=bnd h
 obtain rfl:([1,2,2,1]:List Int)=t9:=some_inj ht9
 refine lit_s (ks:=[1,2,2,1]) (enc:=(Value.int .i64)) (m:=4) hS rfl rfl ?_;intro r4 w hS
 obtain ⟨⟨t10,t11,t12⟩,ho10,h⟩:=bnd h
 refine wk_w16_of H hS (Ent.sl mp0) ho10 ?_;clear hS ho10;rintro a5 m5 c5 hh5 it5 w ed5 hS
 refine ⟨_,_,_,_,_,rfl,?_⟩
 replace ed5:=ed5 [it5] mp0
 replace hS:=ro4 hS
 replace hS:=ro2 hS
 replace hS:=hS.both
 replace ed5:=AllD.both (L:=[]) (y:=(both it2 vd)) (ed5.mono (incl_one mp0))
 replace ed2:=AllD.both (L:=[]) (x:=it5) (ed2.mono (incl_one mp1))
 obtain ⟨⟨t13,t14⟩,ho13,h⟩:=bnd h
 refine wk_inertia_Poly H hS (Ent.sl mp1) (ed5.mono (incl_one mp0)) ho13 ?_;clear hS ho13;rintro a6 m6 c6 hh6 it6 w ed6 hS
 refine ⟨_,_,_,_,rfl,?_⟩
 replace ed6:=ed6 [it6] mp0
 replace hS:=ro2 hS
 replace hS:=ro2 hS
 replace hS:=hS.both
 replace ed6:=AllD.both (L:=[]) (y:=(both it5 (both it2 vd))) (ed6.mono (incl_one mp0))
 replace ed5:=AllD.both (L:=[]) (x:=it6) (ed5.mono (incl_one mp1))
 replace ed2:=AllD.both (L:=[]) (x:=it6) (ed2.mono (incl_one mp1))
 obtain ⟨t15,ht15,h⟩:=bnd h
 obtain rfl:([1,2,2,1]:List Int)=t15:=some_inj ht15
 refine lit_s (ks:=[1,2,2,1]) (enc:=(Value.int .i64)) (m:=4) hS rfl rfl ?_;intro r7 w hS
 obtain ⟨⟨t16,t17,t18⟩,ho16,h⟩:=bnd h
 refine wk_w16_of H hS (Ent.sl mp0) ho16 ?_;clear hS ho16;rintro a8 m8 c8 hh8 it8 w ed8 hS
 refine ⟨_,_,_,_,_,rfl,?_⟩
 replace ed8:=ed8 [it8] mp0
 replace hS:=ro3 hS
 replace hS:=ro2 hS
 replace hS:=hS.both
 replace ed8:=AllD.both (L:=[]) (y:=(both it6 (both it5 (both it2 vd)))) (ed8.mono (incl_one mp0))
 replace ed6:=AllD.both (L:=[]) (x:=it8) (ed6.mono (incl_one mp1))
 replace ed5:=AllD.both (L:=[]) (x:=it8) (ed5.mono (incl_one mp1))
 replace ed2:=AllD.both (L:=[]) (x:=it8) (ed2.mono (incl_one mp1))
 obtain ⟨⟨t19,t20,t21⟩,ho19,h⟩:=bnd h
 refine wk_r02_Int H hS  ho19 ?_;clear hS ho19;rintro a9 m9 c9 w hS
 refine ⟨_,_,_,_,_,rfl,?_⟩
 obtain ⟨⟨t22,t23⟩,ho22,h⟩:=bnd h
 refine wk_inertia_Below H hS (Ent.sl mp2) (ed8.mono (incl_one mp1)) (Ent.sl mp0) ho22 ?_;clear hS ho22;rintro w hS
 refine ⟨_,_,rfl,?_⟩
 refine cond_s h ?_ ?_<;>intro hc h
 ·
  refine cond_s h ?_ ?_<;>intro hc h
  ·
   refine cond_s h ?_ ?_<;>intro hc h
   ·
    refine cond_s h ?_ ?_<;>intro hc h
    ·
     refine ⟨_,hS.cel mp7 rfl,_,hS.cel mp7 rfl,_,hS.cel mp7 rfl,?_⟩
     refine cond_s h ?_ ?_<;>intro hc h
     ·
      obtain ⟨t24,ht24,h⟩:=bnd h
      obtain rfl:([(-3),(-2),1]:List Int)=t24:=some_inj ht24
      refine lit_s (ks:=[(-3),(-2),1]) (enc:=(Value.int .i64)) (m:=3) hS rfl rfl ?_;intro r10 w hS
      obtain ⟨⟨t25,t26,t27⟩,ho25,h⟩:=bnd h
      refine wk_w16_of H hS (Ent.sl mp0) ho25 ?_;clear hS ho25;rintro a11 m11 c11 hh11 it11 w ed11 hS
      refine ⟨_,_,_,_,_,rfl,?_⟩
      replace ed11:=ed11 [it11] mp0
      replace hS:=ro4 hS
      replace hS:=ro2 hS
      replace hS:=hS.both
      replace ed11:=AllD.both (L:=[]) (y:=(both it8 (both it6 (both it5 (both it2 vd))))) (ed11.mono (incl_one mp0))
      replace ed8:=AllD.both (L:=[]) (x:=it11) (ed8.mono (incl_one mp1))
      replace ed6:=AllD.both (L:=[]) (x:=it11) (ed6.mono (incl_one mp1))
      replace ed5:=AllD.both (L:=[]) (x:=it11) (ed5.mono (incl_one mp1))
      replace ed2:=AllD.both (L:=[]) (x:=it11) (ed2.mono (incl_one mp1))
      obtain ⟨t28,ht28,h⟩:=bnd h
      refine wk_k_SameDyads H hS (Ent.sl mp6) (ed6.mono (incl_one mp0)) (Ent.sl mp1) (ed11.mono (incl_one mp0)) ht28 ?_;rintro w hS
      refine ⟨_,rfl,?_⟩
      cases some_inj h
      exact hK _ (hS.pick (A:=[_,_,_,_,_,_,_,_,_,_,_,_]) [] rfl)
     cases some_inj h
     exact hK _ (hS.pick (A:=[_,_,_,_,_,_,_,_,_,_]) [] rfl)
    cases some_inj h
    exact hK _ (hS.pick (A:=[_,_,_,_,_,_,_,_,_,_]) [] rfl)
   cases some_inj h
   exact hK _ (hS.pick (A:=[_,_,_,_,_,_,_,_,_,_]) [] rfl)
  cases some_inj h
  exact hK _ (hS.pick (A:=[_,_,_,_,_,_,_,_,_,_]) [] rfl)
 cases some_inj h
 exact hK _ (hS.pick (A:=[_,_,_,_,_,_,_,_,_,_]) [] rfl)
theorem wk_w16_InertiaNumbers  {u0} (hS:Ho w0 w L)  (h:T_w16_InertiaNumbers  = some u0) (hK:∀ w1,Ho w0 w1 L→K (.bool u0) w1):CallsX P N.f_w16_InertiaNumbers #[] w K:=by
 refine H.w16_InertiaNumbers  w _ ?_
 unfold S_w16_InertiaNumbers
 unfold T_w16_InertiaNumbers at h
 try dsimp only
 replace hS:=hS.voidItem
 obtain ⟨t1,ht1,h⟩:=bnd h
 obtain rfl:([0,1,1,0]:List Int)=t1:=some_inj ht1
 refine lit_s (ks:=[0,1,1,0]) (enc:=(Value.int .i64)) (m:=4) hS rfl rfl ?_;intro r1 w hS
 obtain ⟨⟨t2,t3,t4⟩,ho2,h⟩:=bnd h
 refine wk_w16_of H hS (Ent.sl mp0) ho2 ?_;clear hS ho2;rintro a2 m2 c2 hh2 it2 w ed2 hS
 refine ⟨_,_,_,_,_,rfl,?_⟩
 replace ed2:=ed2 [it2] mp0
 replace hS:=ro3 hS
 replace hS:=ro2 hS
 replace hS:=hS.both
 replace ed2:=AllD.both (L:=[]) (y:=vd) (ed2.mono (incl_one mp0))
 obtain ⟨⟨t5,t6,t7,t8⟩,ho5,h⟩:=bnd h
 refine wk_inertia_Signs H hS (Ent.sl mp1) (ed2.mono (incl_one mp0)) ho5 ?_;clear hS ho5;rintro w hS
 refine ⟨_,_,_,_,rfl,?_⟩
 refine newM_s hS ?_;intro r3 w hS
 refine stc_s hS rfl rfl ?_;intro w hS
 refine stc_s hS rfl rfl ?_;intro w hS
 refine stc_s hS rfl rfl ?_;intro w hS
 obtain ⟨t9,ht9,h⟩:=bnd h
 obtain rfl:([0,0,0,0]:List Int)=t9:=some_inj ht9
 refine lit_s (ks:=[0,0,0,0]) (enc:=(Value.int .i64)) (m:=4) hS rfl rfl ?_;intro r4 w hS
 obtain ⟨⟨t10,t11,t12⟩,ho10,h⟩:=bnd h
 refine wk_w16_of H hS (Ent.sl mp0) ho10 ?_;clear hS ho10;rintro a5 m5 c5 hh5 it5 w ed5 hS
 refine ⟨_,_,_,_,_,rfl,?_⟩
 replace ed5:=ed5 [it5] mp0
 replace hS:=ro4 hS
 replace hS:=ro2 hS
 replace hS:=hS.both
 replace ed5:=AllD.both (L:=[]) (y:=(both it2 vd)) (ed5.mono (incl_one mp0))
 replace ed2:=AllD.both (L:=[]) (x:=it5) (ed2.mono (incl_one mp1))
 obtain ⟨⟨t13,t14,t15,t16⟩,ho13,h⟩:=bnd h
 refine wk_inertia_Signs H hS (Ent.sl mp1) (ed5.mono (incl_one mp0)) ho13 ?_;clear hS ho13;rintro w hS
 refine ⟨_,_,_,_,rfl,?_⟩
 refine newM_s hS ?_;intro r6 w hS
 refine stc_s hS rfl rfl ?_;intro w hS
 refine stc_s hS rfl rfl ?_;intro w hS
 refine stc_s hS rfl rfl ?_;intro w hS
 obtain ⟨t17,ht17,h⟩:=bnd h
 obtain rfl:([1,1,1,1]:List Int)=t17:=some_inj ht17
 refine lit_s (ks:=[1,1,1,1]) (enc:=(Value.int .i64)) (m:=4) hS rfl rfl ?_;intro r7 w hS
 obtain ⟨⟨t18,t19,t20⟩,ho18,h⟩:=bnd h
 refine wk_w16_of H hS (Ent.sl mp0) ho18 ?_;clear hS ho18;rintro a8 m8 c8 hh8 it8 w ed8 hS
 refine ⟨_,_,_,_,_,rfl,?_⟩
 replace ed8:=ed8 [it8] mp0
 replace hS:=ro4 hS
 replace hS:=ro2 hS
 replace hS:=hS.both
 replace ed8:=AllD.both (L:=[]) (y:=(both it5 (both it2 vd))) (ed8.mono (incl_one mp0))
 replace ed5:=AllD.both (L:=[]) (x:=it8) (ed5.mono (incl_one mp1))
 replace ed2:=AllD.both (L:=[]) (x:=it8) (ed2.mono (incl_one mp1))
 obtain ⟨⟨t21,t22,t23,t24⟩,ho21,h⟩:=bnd h
 refine wk_inertia_Signs H hS (Ent.sl mp1) (ed8.mono (incl_one mp0)) ho21 ?_;clear hS ho21;rintro w hS
 refine ⟨_,_,_,_,rfl,?_⟩
 refine newM_s hS ?_;intro r9 w hS
 refine stc_s hS rfl rfl ?_;intro w hS
 refine stc_s hS rfl rfl ?_;intro w hS
 refine stc_s hS rfl rfl ?_;intro w hS
 obtain ⟨⟨t25,t26,t27,t28⟩,ho25,h⟩:=bnd h
 refine wk_inertia_Signs H hS (Ent.nilD _) AllD.nil ho25 ?_;clear hS ho25;rintro w hS
 refine ⟨_,_,_,_,rfl,?_⟩
 refine newM_s hS ?_;intro r10 w hS
 refine stc_s hS rfl rfl ?_;intro w hS
 refine stc_s hS rfl rfl ?_;intro w hS
 refine stc_s hS rfl rfl ?_;intro w hS
 obtain ⟨⟨t29,t30⟩,ho29,h⟩:=bnd h
 refine wk_inertia_Poly H hS (Ent.nilD _) AllD.nil ho29 ?_;clear hS ho29;rintro a11 m11 c11 hh11 it11 w ed11 hS
 refine ⟨_,_,_,_,rfl,?_⟩
 replace ed11:=ed11 [it11] mp0
 replace hS:=ro4 hS
 replace hS:=ro2 hS
 replace hS:=hS.both
 replace ed11:=AllD.both (L:=[]) (y:=(both it8 (both it5 (both it2 vd)))) (ed11.mono (incl_one mp0))
 replace ed8:=AllD.both (L:=[]) (x:=it11) (ed8.mono (incl_one mp1))
 replace ed5:=AllD.both (L:=[]) (x:=it11) (ed5.mono (incl_one mp1))
 replace ed2:=AllD.both (L:=[]) (x:=it11) (ed2.mono (incl_one mp1))
 obtain ⟨o13,h13,c13⟩:=bnd h
 refine cutM_i (fun s w=>∃ (t31:Bool) (it12:It),t31=o13∧s=(t31,())∧Ho w0 w (it12::L)) (fun J13 hJ13=>?_) ?_
 ·
  have h:=h13
  clear h13
  refine ⟨_,hS.cel mp9 rfl,_,hS.cel mp9 rfl,_,hS.cel mp9 rfl,?_⟩
  refine cond_s h ?_ ?_<;>intro hc h
  ·
   refine ⟨_,hS.cel mp6 rfl,_,hS.cel mp6 rfl,_,hS.cel mp6 rfl,?_⟩
   refine cond_s h ?_ ?_<;>intro hc h
   ·
    refine ⟨_,hS.cel mp3 rfl,_,hS.cel mp3 rfl,_,hS.cel mp3 rfl,?_⟩
    refine cond_s h ?_ ?_<;>intro hc h
    ·
     refine ⟨_,hS.cel mp2 rfl,_,hS.cel mp2 rfl,_,hS.cel mp2 rfl,?_⟩
     refine cond_s h ?_ ?_<;>intro hc h
     ·
      refine cond_s h ?_ ?_<;>intro hc h
      ·
       obtain ⟨t32,ht32,h⟩:=bnd h
       obtain rfl:([1]:List Int)=t32:=some_inj ht32
       refine lit_s (ks:=[1]) (enc:=(Value.int .i64)) (m:=1) hS rfl rfl ?_;intro r14 w hS
       obtain ⟨⟨t33,t34,t35⟩,ho33,h⟩:=bnd h
       refine wk_w16_of H hS (Ent.sl mp0) ho33 ?_;clear hS ho33;rintro a15 m15 c15 hh15 it15 w ed15 hS
       refine ⟨_,_,_,_,_,rfl,?_⟩
       replace ed15:=ed15 [it15] mp0
       replace hS:=ro3 hS
       replace hS:=ro2 hS
       replace hS:=hS.both
       replace ed15:=AllD.both (L:=[]) (y:=(both it11 (both it8 (both it5 (both it2 vd))))) (ed15.mono (incl_one mp0))
       replace ed11:=AllD.both (L:=[]) (x:=it15) (ed11.mono (incl_one mp1))
       replace ed8:=AllD.both (L:=[]) (x:=it15) (ed8.mono (incl_one mp1))
       replace ed5:=AllD.both (L:=[]) (x:=it15) (ed5.mono (incl_one mp1))
       replace ed2:=AllD.both (L:=[]) (x:=it15) (ed2.mono (incl_one mp1))
       obtain ⟨t36,ht36,h⟩:=bnd h
       refine wk_k_SameDyads H hS (Ent.sl mp3) (ed11.mono (incl_one mp0)) (Ent.sl mp1) (ed15.mono (incl_one mp0)) ht36 ?_;rintro w hS
       refine ⟨_,rfl,?_⟩
       obtain rfl:=some_inj h
       exact hJ13 _ _ ⟨_,_,rfl,rfl,(hS.pick (A:=[_,_,_,_,_,_,_,_,_,_,_,_,_,_]) [0] rfl)⟩
      obtain rfl:=some_inj h
      exact hJ13 _ _ ⟨_,_,rfl,rfl,(hS.pick (A:=[_,_,_,_,_,_,_,_,_,_,_,_]) [0] rfl)⟩
     obtain rfl:=some_inj h
     exact hJ13 _ _ ⟨_,_,rfl,rfl,(hS.pick (A:=[_,_,_,_,_,_,_,_,_,_,_,_]) [0] rfl)⟩
    obtain rfl:=some_inj h
    exact hJ13 _ _ ⟨_,_,rfl,rfl,(hS.pick (A:=[_,_,_,_,_,_,_,_,_,_,_,_]) [0] rfl)⟩
   obtain rfl:=some_inj h
   exact hJ13 _ _ ⟨_,_,rfl,rfl,(hS.pick (A:=[_,_,_,_,_,_,_,_,_,_,_,_]) [0] rfl)⟩
  obtain rfl:=some_inj h
  exact hJ13 _ _ ⟨_,_,rfl,rfl,(hS.pick (A:=[_,_,_,_,_,_,_,_,_,_,_,_]) [0] rfl)⟩
 clear h13 hS
 rintro s w ⟨t31,it12,rfl,rfl,hS⟩
 have h:=c13
 clear c13
 try dsimp only
 obtain ⟨t37,ht37,h⟩:=bnd h
 obtain rfl:([1,2,3,4]:List Int)=t37:=some_inj ht37
 refine lit_s (ks:=[1,2,3,4]) (enc:=(Value.int .i64)) (m:=4) hS rfl rfl ?_;intro r16 w hS
 obtain ⟨⟨t38,t39,t40⟩,ho38,h⟩:=bnd h
 refine wk_w16_of H hS (Ent.sl mp0) ho38 ?_;clear hS ho38;rintro a17 m17 c17 hh17 it17 w ed17 hS
 refine ⟨_,_,_,_,_,rfl,?_⟩
 replace ed17:=ed17 [it17] mp0
 replace hS:=ro3 hS
 replace hS:=ro2 hS
 replace hS:=hS.both
 replace ed17:=AllD.both (L:=[]) (y:=it12) (ed17.mono (incl_one mp0))
 obtain ⟨⟨t41,t42,t43,t44⟩,ho41,h⟩:=bnd h
 refine wk_inertia_Signs H hS (Ent.sl mp1) (ed17.mono (incl_one mp0)) ho41 ?_;clear hS ho41;rintro w hS
 refine ⟨_,_,_,_,rfl,?_⟩
 refine newM_s hS ?_;intro r18 w hS
 refine stc_s hS rfl rfl ?_;intro w hS
 refine stc_s hS rfl rfl ?_;intro w hS
 refine stc_s hS rfl rfl ?_;intro w hS
 obtain ⟨t45,ht45,h⟩:=bnd h
 obtain rfl:([1,2]:List Int)=t45:=some_inj ht45
 refine lit_s (ks:=[1,2]) (enc:=(Value.int .i64)) (m:=2) hS rfl rfl ?_;intro r19 w hS
 obtain ⟨⟨t46,t47,t48⟩,ho46,h⟩:=bnd h
 refine wk_w16_of H hS (Ent.sl mp0) ho46 ?_;clear hS ho46;rintro a20 m20 c20 hh20 it20 w ed20 hS
 refine ⟨_,_,_,_,_,rfl,?_⟩
 replace ed20:=ed20 [it20] mp0
 replace hS:=ro4 hS
 replace hS:=ro2 hS
 replace hS:=hS.both
 replace ed20:=AllD.both (L:=[]) (y:=(both it17 it12)) (ed20.mono (incl_one mp0))
 replace ed17:=AllD.both (L:=[]) (x:=it20) (ed17.mono (incl_one mp1))
 obtain ⟨⟨t49,t50⟩,ho49,h⟩:=bnd h
 refine wk_inertia_Poly H hS (Ent.sl mp1) (ed20.mono (incl_one mp0)) ho49 ?_;clear hS ho49;rintro a21 m21 c21 hh21 it21 w ed21 hS
 refine ⟨_,_,_,_,rfl,?_⟩
 replace ed21:=ed21 [it21] mp0
 replace hS:=ro2 hS
 replace hS:=ro2 hS
 replace hS:=hS.both
 replace ed21:=AllD.both (L:=[]) (y:=(both it20 (both it17 it12))) (ed21.mono (incl_one mp0))
 replace ed20:=AllD.both (L:=[]) (x:=it21) (ed20.mono (incl_one mp1))
 replace ed17:=AllD.both (L:=[]) (x:=it21) (ed17.mono (incl_one mp1))
 obtain ⟨⟨t51,t52,t53⟩,ho51,h⟩:=bnd h
 refine wk_w16_power H hS  ho51 ?_;clear hS ho51;rintro a22 m22 c22 hh22 it22 w ed22 hS
 refine ⟨_,_,_,_,_,rfl,?_⟩
 replace ed22:=ed22 [it22] mp0
 replace hS:=ro2 hS
 replace hS:=ro2 hS
 replace hS:=hS.both
 replace ed22:=AllD.both (L:=[]) (y:=(both it21 (both it20 (both it17 it12)))) (ed22.mono (incl_one mp0))
 replace ed21:=AllD.both (L:=[]) (x:=it22) (ed21.mono (incl_one mp1))
 replace ed20:=AllD.both (L:=[]) (x:=it22) (ed20.mono (incl_one mp1))
 replace ed17:=AllD.both (L:=[]) (x:=it22) (ed17.mono (incl_one mp1))
 obtain ⟨⟨t54,t55,t56,t57⟩,ho54,h⟩:=bnd h
 refine wk_inertia_Signs H hS (Ent.sl mp1) (ed22.mono (incl_one mp0)) ho54 ?_;clear hS ho54;rintro w hS
 refine ⟨_,_,_,_,rfl,?_⟩
 refine newM_s hS ?_;intro r23 w hS
 refine stc_s hS rfl rfl ?_;intro w hS
 refine stc_s hS rfl rfl ?_;intro w hS
 refine stc_s hS rfl rfl ?_;intro w hS
 obtain ⟨⟨t58,t59,t60⟩,ho58,h⟩:=bnd h
 refine wk_w16_power H hS  ho58 ?_;clear hS ho58;rintro a24 m24 c24 hh24 it24 w ed24 hS
 refine ⟨_,_,_,_,_,rfl,?_⟩
 replace ed24:=ed24 [it24] mp0
 replace hS:=ro3 hS
 replace hS:=ro2 hS
 replace hS:=hS.both
 replace ed24:=AllD.both (L:=[]) (y:=(both it22 (both it21 (both it20 (both it17 it12))))) (ed24.mono (incl_one mp0))
 replace ed22:=AllD.both (L:=[]) (x:=it24) (ed22.mono (incl_one mp1))
 replace ed21:=AllD.both (L:=[]) (x:=it24) (ed21.mono (incl_one mp1))
 replace ed20:=AllD.both (L:=[]) (x:=it24) (ed20.mono (incl_one mp1))
 replace ed17:=AllD.both (L:=[]) (x:=it24) (ed17.mono (incl_one mp1))
 obtain ⟨⟨t61,t62,t63,t64⟩,ho61,h⟩:=bnd h
 refine wk_inertia_Signs H hS (Ent.sl mp1) (ed24.mono (incl_one mp0)) ho61 ?_;clear hS ho61;rintro w hS
 refine ⟨_,_,_,_,rfl,?_⟩
 refine newM_s hS ?_;intro r25 w hS
 refine stc_s hS rfl rfl ?_;intro w hS
 refine stc_s hS rfl rfl ?_;intro w hS
 refine stc_s hS rfl rfl ?_;intro w hS
 obtain ⟨⟨t65,t66,t67⟩,ho65,h⟩:=bnd h
 refine wk_w16_power H hS  ho65 ?_;clear hS ho65;rintro a26 m26 c26 hh26 it26 w ed26 hS
 refine ⟨_,_,_,_,_,rfl,?_⟩
 replace ed26:=ed26 [it26] mp0
 replace hS:=ro3 hS
 replace hS:=ro2 hS
 replace hS:=hS.both
 replace ed26:=AllD.both (L:=[]) (y:=(both it24 (both it22 (both it21 (both it20 (both it17 it12)))))) (ed26.mono (incl_one mp0))
 replace ed24:=AllD.both (L:=[]) (x:=it26) (ed24.mono (incl_one mp1))
 replace ed22:=AllD.both (L:=[]) (x:=it26) (ed22.mono (incl_one mp1))
 replace ed21:=AllD.both (L:=[]) (x:=it26) (ed21.mono (incl_one mp1))
 replace ed20:=AllD.both (L:=[]) (x:=it26) (ed20.mono (incl_one mp1))
 replace ed17:=AllD.both (L:=[]) (x:=it26) (ed17.mono (incl_one mp1))
 obtain ⟨⟨t68,t69,t70,t71⟩,ho68,h⟩:=bnd h
 refine wk_inertia_Signs H hS (Ent.sl mp1) (ed26.mono (incl_one mp0)) ho68 ?_;clear hS ho68;rintro w hS
 refine ⟨_,_,_,_,rfl,?_⟩
 refine newM_s hS ?_;intro r27 w hS
 refine stc_s hS rfl rfl ?_;intro w hS
 refine stc_s hS rfl rfl ?_;intro w hS
 refine stc_s hS rfl rfl ?_;intro w hS
 obtain ⟨t72,ht72,h⟩:=bnd h
 obtain rfl:([1]:List Int)=t72:=some_inj ht72
 refine lit_s (ks:=[1]) (enc:=(Value.int .u64)) (m:=1) hS rfl rfl ?_;intro r28 w hS
 obtain ⟨t73,ht73,h⟩:=bnd h
 obtain rfl:([1]:List Int)=t73:=some_inj ht73
 refine lit_s (ks:=[1]) (enc:=(Value.int .u64)) (m:=1) hS rfl rfl ?_;intro r29 w hS
 replace hS:=ro1 hS
 have hz30:Ent [sl (some ⟨r28,0,none⟩) 1 1 (List.map (Value.int .u64) ([1])) N.t_uint64] (rdA (List.map (Value.int .u64) ([1])) (some ⟨r28,0,none⟩) 1 1):=(Ent.sl (L:=[sl (some ⟨r28,0,none⟩) 1 1 (List.map (Value.int .u64) ([1])) N.t_uint64]) mp0)
 replace hS:=ro3 hS
 replace hS:=ro1 hS
 replace hS:=hS.both
 replace hz30:=Ent.both (L:=[]) (y:=(both it26 (both it24 (both it22 (both it21 (both it20 (both it17 it12))))))) (hz30.mono (incl_one mp0))
 replace ed26:=AllD.both (L:=[]) (x:=(sl (some ⟨r28,0,none⟩) 1 1 (List.map (Value.int .u64) ([1])) N.t_uint64)) (ed26.mono (incl_one mp1))
 replace ed24:=AllD.both (L:=[]) (x:=(sl (some ⟨r28,0,none⟩) 1 1 (List.map (Value.int .u64) ([1])) N.t_uint64)) (ed24.mono (incl_one mp1))
 replace ed22:=AllD.both (L:=[]) (x:=(sl (some ⟨r28,0,none⟩) 1 1 (List.map (Value.int .u64) ([1])) N.t_uint64)) (ed22.mono (incl_one mp1))
 replace ed21:=AllD.both (L:=[]) (x:=(sl (some ⟨r28,0,none⟩) 1 1 (List.map (Value.int .u64) ([1])) N.t_uint64)) (ed21.mono (incl_one mp1))
 replace ed20:=AllD.both (L:=[]) (x:=(sl (some ⟨r28,0,none⟩) 1 1 (List.map (Value.int .u64) ([1])) N.t_uint64)) (ed20.mono (incl_one mp1))
 replace ed17:=AllD.both (L:=[]) (x:=(sl (some ⟨r28,0,none⟩) 1 1 (List.map (Value.int .u64) ([1])) N.t_uint64)) (ed17.mono (incl_one mp1))
 replace hS:=ro1 hS
 have hz31:Ent [sl (some ⟨r29,0,none⟩) 1 1 (List.map (Value.int .u64) ([1])) N.t_uint64] (rdA (List.map (Value.int .u64) ([1])) (some ⟨r29,0,none⟩) 1 1):=(Ent.sl (L:=[sl (some ⟨r29,0,none⟩) 1 1 (List.map (Value.int .u64) ([1])) N.t_uint64]) mp0)
 replace hS:=ro1 hS
 replace hS:=ro1 hS
 replace hS:=hS.both
 replace hz31:=Ent.both (L:=[]) (y:=(both (sl (some ⟨r28,0,none⟩) 1 1 (List.map (Value.int .u64) ([1])) N.t_uint64) (both it26 (both it24 (both it22 (both it21 (both it20 (both it17 it12)))))))) (hz31.mono (incl_one mp0))
 replace ed26:=AllD.both (L:=[]) (x:=(sl (some ⟨r29,0,none⟩) 1 1 (List.map (Value.int .u64) ([1])) N.t_uint64)) (ed26.mono (incl_one mp1))
 replace ed24:=AllD.both (L:=[]) (x:=(sl (some ⟨r29,0,none⟩) 1 1 (List.map (Value.int .u64) ([1])) N.t_uint64)) (ed24.mono (incl_one mp1))
 replace ed22:=AllD.both (L:=[]) (x:=(sl (some ⟨r29,0,none⟩) 1 1 (List.map (Value.int .u64) ([1])) N.t_uint64)) (ed22.mono (incl_one mp1))
 replace ed21:=AllD.both (L:=[]) (x:=(sl (some ⟨r29,0,none⟩) 1 1 (List.map (Value.int .u64) ([1])) N.t_uint64)) (ed21.mono (incl_one mp1))
 replace ed20:=AllD.both (L:=[]) (x:=(sl (some ⟨r29,0,none⟩) 1 1 (List.map (Value.int .u64) ([1])) N.t_uint64)) (ed20.mono (incl_one mp1))
 replace ed17:=AllD.both (L:=[]) (x:=(sl (some ⟨r29,0,none⟩) 1 1 (List.map (Value.int .u64) ([1])) N.t_uint64)) (ed17.mono (incl_one mp1))
 replace hz30:=Ent.both (L:=[]) (x:=(sl (some ⟨r29,0,none⟩) 1 1 (List.map (Value.int .u64) ([1])) N.t_uint64)) (hz30.mono (incl_one mp1))
 obtain ⟨t74,ht74,h⟩:=bnd h
 obtain rfl:([(false,[1],(-60000)),(false,[],0),(false,[],0),(false,[1],(-60000))]:List Dy)=t74:=some_inj ht74
 have ed33:AllD [(both (sl (some ⟨r29,0,none⟩) 1 1 (List.map (Value.int .u64) ([1])) N.t_uint64) (both (sl (some ⟨r28,0,none⟩) 1 1 (List.map (Value.int .u64) ([1])) N.t_uint64) (both it26 (both it24 (both it22 (both it21 (both it20 (both it17 it12))))))))] ([(false,[1],(-60000)),(false,[],0),(false,[],0),(false,[1],(-60000))]:List Dy) ([((some ⟨r28,0,none⟩),1,1),(none,0,0),(none,0,0),((some ⟨r29,0,none⟩),1,1)]:List Hd):=(.cons hz30 (.cons (Ent.nil (enc:=Value.int .u64) _) (.cons (Ent.nil (enc:=Value.int .u64) _) (.cons hz31 .nil))))
 refine litD_s (X:=([(false,[1],(-60000)),(false,[],0),(false,[],0),(false,[1],(-60000))]:List Dy)) (H:=([((some ⟨r28,0,none⟩),1,1),(none,0,0),(none,0,0),((some ⟨r29,0,none⟩),1,1)]:List Hd)) (m:=4) hS rfl rfl rfl ?_;intro r32 w hS
 refine newM_s hS ?_;intro r34 w hS
 refine stc_s hS rfl rfl ?_;intro w hS
 refine stc_s hS rfl rfl ?_;intro w hS
 refine stc_s hS rfl rfl ?_;intro w hS
 refine ⟨_,hS.cel mp0 rfl,_,hS.cel mp0 rfl,_,_,_,hS.cel mp0 rfl,?_⟩
 obtain ⟨⟨t75,t76,t77,t78⟩,ho75,h⟩:=bnd h
 refine wk_inertia_Signs H hS (Ent.sl mp1) (ed33.mono (incl_one mp2)) ho75 ?_;clear hS ho75;rintro w hS
 refine ⟨_,_,_,_,rfl,?_⟩
 refine newM_s hS ?_;intro r35 w hS
 refine stc_s hS rfl rfl ?_;intro w hS
 refine stc_s hS rfl rfl ?_;intro w hS
 refine stc_s hS rfl rfl ?_;intro w hS
 refine ⟨_,hS.cel mp1 rfl,_,hS.cel mp1 rfl,_,_,_,hS.cel mp1 rfl,?_⟩
 obtain ⟨⟨t79,t80⟩,ho79,h⟩:=bnd h
 refine wk_inertia_Poly H hS (Ent.sl mp2) (ed33.mono (incl_one mp3)) ho79 ?_;clear hS ho79;rintro a36 m36 c36 hh36 it36 w ed36 hS
 refine ⟨_,_,_,_,rfl,?_⟩
 replace ed36:=ed36 [it36] mp0
 replace hS:=ro5 hS
 replace hS:=ro2 hS
 replace hS:=hS.both
 replace ed36:=AllD.both (L:=[]) (y:=(both (sl (some ⟨r29,0,none⟩) 1 1 (List.map (Value.int .u64) ([1])) N.t_uint64) (both (sl (some ⟨r28,0,none⟩) 1 1 (List.map (Value.int .u64) ([1])) N.t_uint64) (both it26 (both it24 (both it22 (both it21 (both it20 (both it17 it12))))))))) (ed36.mono (incl_one mp0))
 replace ed33:=AllD.both (L:=[]) (x:=it36) (ed33.mono (incl_one mp1))
 replace ed26:=AllD.both (L:=[]) (x:=it36) (ed26.mono (incl_one mp1))
 replace ed24:=AllD.both (L:=[]) (x:=it36) (ed24.mono (incl_one mp1))
 replace ed22:=AllD.both (L:=[]) (x:=it36) (ed22.mono (incl_one mp1))
 replace ed21:=AllD.both (L:=[]) (x:=it36) (ed21.mono (incl_one mp1))
 replace ed20:=AllD.both (L:=[]) (x:=it36) (ed20.mono (incl_one mp1))
 replace ed17:=AllD.both (L:=[]) (x:=it36) (ed17.mono (incl_one mp1))
 replace hz30:=Ent.both (L:=[]) (x:=it36) (hz30.mono (incl_one mp1))
 replace hz31:=Ent.both (L:=[]) (x:=it36) (hz31.mono (incl_one mp1))
 obtain ⟨o37,h37,c37⟩:=bnd h
 refine cutM_i (fun s w=>∃ (t81:Bool),t81=o37∧s=(t81,())∧Ho w0 w ((both it36 (both (sl (some ⟨r29,0,none⟩) 1 1 (List.map (Value.int .u64) ([1])) N.t_uint64) (both (sl (some ⟨r28,0,none⟩) 1 1 (List.map (Value.int .u64) ([1])) N.t_uint64) (both it26 (both it24 (both it22 (both it21 (both it20 (both it17 it12)))))))))::L)) (fun J37 hJ37=>?_) ?_
 ·
  have h:=h37
  clear h37
  refine cond_s h ?_ ?_<;>intro hc h
  ·
   refine cond_s h ?_ ?_<;>intro hc h
   ·
    obtain ⟨t82,ht82,h⟩:=bnd h
    obtain rfl:=lenD ht82 ed21.len ((Ent.sl mp11).now (fun _ h=>h) hS)
    refine cond_s h ?_ ?_<;>intro hc h
    ·
     refine ⟨_,hS.cel mp9 rfl,_,hS.cel mp9 rfl,_,hS.cel mp9 rfl,?_⟩
     refine cond_s h ?_ ?_<;>intro hc h
     ·
      refine cond_s h ?_ ?_<;>intro hc h
      ·
       refine ⟨_,hS.cel mp7 rfl,_,hS.cel mp7 rfl,_,hS.cel mp7 rfl,?_⟩
       refine cond_s h ?_ ?_<;>intro hc h
       ·
        refine cond_s h ?_ ?_<;>intro hc h
        ·
         refine ⟨_,hS.cel mp5 rfl,_,hS.cel mp5 rfl,_,hS.cel mp5 rfl,?_⟩
         refine cond_s h ?_ ?_<;>intro hc h
         ·
          refine cond_s h ?_ ?_<;>intro hc h
          ·
           refine ⟨_,hS.cel mp2 rfl,_,hS.cel mp2 rfl,_,hS.cel mp2 rfl,?_⟩
           refine cond_s h ?_ ?_<;>intro hc h
           ·
            refine cond_s h ?_ ?_<;>intro hc h
            ·
             obtain ⟨t83,ht83,h⟩:=bnd h
             obtain rfl:=lenD ht83 ed36.len ((Ent.sl mp1).now (fun _ h=>h) hS)
             refine cond_s h ?_ ?_<;>intro hc h
             ·
              obtain rfl:=some_inj h
              exact hJ37 _ _ ⟨_,rfl,rfl,(hS.pick (A:=[_,_,_,_,_,_,_,_,_,_,_,_,_,_,_,_,_]) [0] rfl)⟩
             obtain rfl:=some_inj h
             exact hJ37 _ _ ⟨_,rfl,rfl,(hS.pick (A:=[_,_,_,_,_,_,_,_,_,_,_,_,_,_,_,_,_]) [0] rfl)⟩
            obtain rfl:=some_inj h
            exact hJ37 _ _ ⟨_,rfl,rfl,(hS.pick (A:=[_,_,_,_,_,_,_,_,_,_,_,_,_,_,_,_,_]) [0] rfl)⟩
           obtain rfl:=some_inj h
           exact hJ37 _ _ ⟨_,rfl,rfl,(hS.pick (A:=[_,_,_,_,_,_,_,_,_,_,_,_,_,_,_,_,_]) [0] rfl)⟩
          obtain rfl:=some_inj h
          exact hJ37 _ _ ⟨_,rfl,rfl,(hS.pick (A:=[_,_,_,_,_,_,_,_,_,_,_,_,_,_,_,_,_]) [0] rfl)⟩
         obtain rfl:=some_inj h
         exact hJ37 _ _ ⟨_,rfl,rfl,(hS.pick (A:=[_,_,_,_,_,_,_,_,_,_,_,_,_,_,_,_,_]) [0] rfl)⟩
        obtain rfl:=some_inj h
        exact hJ37 _ _ ⟨_,rfl,rfl,(hS.pick (A:=[_,_,_,_,_,_,_,_,_,_,_,_,_,_,_,_,_]) [0] rfl)⟩
       obtain rfl:=some_inj h
       exact hJ37 _ _ ⟨_,rfl,rfl,(hS.pick (A:=[_,_,_,_,_,_,_,_,_,_,_,_,_,_,_,_,_]) [0] rfl)⟩
      obtain rfl:=some_inj h
      exact hJ37 _ _ ⟨_,rfl,rfl,(hS.pick (A:=[_,_,_,_,_,_,_,_,_,_,_,_,_,_,_,_,_]) [0] rfl)⟩
     obtain rfl:=some_inj h
     exact hJ37 _ _ ⟨_,rfl,rfl,(hS.pick (A:=[_,_,_,_,_,_,_,_,_,_,_,_,_,_,_,_,_]) [0] rfl)⟩
    obtain rfl:=some_inj h
    exact hJ37 _ _ ⟨_,rfl,rfl,(hS.pick (A:=[_,_,_,_,_,_,_,_,_,_,_,_,_,_,_,_,_]) [0] rfl)⟩
   obtain rfl:=some_inj h
   exact hJ37 _ _ ⟨_,rfl,rfl,(hS.pick (A:=[_,_,_,_,_,_,_,_,_,_,_,_,_,_,_,_,_]) [0] rfl)⟩
  obtain rfl:=some_inj h
  exact hJ37 _ _ ⟨_,rfl,rfl,(hS.pick (A:=[_,_,_,_,_,_,_,_,_,_,_,_,_,_,_,_,_]) [0] rfl)⟩
 clear h37 hS
 rintro s w ⟨t81,rfl,rfl,hS⟩
 have h:=c37
 clear c37
 try dsimp only
 obtain ⟨⟨t84,t85,t86⟩,ho84,h⟩:=bnd h
 refine wk_w16_power H hS  ho84 ?_;clear hS ho84;rintro a38 m38 c38 hh38 it38 w ed38 hS
 refine ⟨_,_,_,_,_,rfl,?_⟩
 replace ed38:=ed38 [it38] mp0
 replace hS:=ro2 hS
 replace hS:=ro2 hS
 replace hS:=hS.both
 replace ed38:=AllD.both (L:=[]) (y:=(both it36 (both (sl (some ⟨r29,0,none⟩) 1 1 (List.map (Value.int .u64) ([1])) N.t_uint64) (both (sl (some ⟨r28,0,none⟩) 1 1 (List.map (Value.int .u64) ([1])) N.t_uint64) (both it26 (both it24 (both it22 (both it21 (both it20 (both it17 it12)))))))))) (ed38.mono (incl_one mp0))
 replace hz30:=Ent.both (L:=[]) (x:=it38) (hz30.mono (incl_one mp1))
 replace hz31:=Ent.both (L:=[]) (x:=it38) (hz31.mono (incl_one mp1))
 obtain ⟨⟨t87,t88,t89⟩,ho87,h⟩:=bnd h
 refine wk_r02_Int H hS  ho87 ?_;clear hS ho87;rintro a39 m39 c39 w hS
 refine ⟨_,_,_,_,_,rfl,?_⟩
 obtain ⟨⟨t90,t91⟩,ho90,h⟩:=bnd h
 refine wk_inertia_Below H hS (Ent.sl mp2) (ed38.mono (incl_one mp1)) (Ent.sl mp0) ho90 ?_;clear hS ho90;rintro w hS
 refine ⟨_,_,rfl,?_⟩
 obtain ⟨t92,ht92,h⟩:=bnd h
 obtain rfl:([1]:List Int)=t92:=some_inj ht92
 refine lit_s (ks:=[1]) (enc:=(Value.int .i64)) (m:=1) hS rfl rfl ?_;intro r40 w hS
 obtain ⟨⟨t93,t94,t95⟩,ho93,h⟩:=bnd h
 refine wk_w16_of H hS (Ent.sl mp0) ho93 ?_;clear hS ho93;rintro a41 m41 c41 hh41 it41 w ed41 hS
 refine ⟨_,_,_,_,_,rfl,?_⟩
 replace ed41:=ed41 [it41] mp0
 replace hS:=ro4 hS
 replace hS:=ro2 hS
 replace hS:=hS.both
 replace ed41:=AllD.both (L:=[]) (y:=(both it38 (both it36 (both (sl (some ⟨r29,0,none⟩) 1 1 (List.map (Value.int .u64) ([1])) N.t_uint64) (both (sl (some ⟨r28,0,none⟩) 1 1 (List.map (Value.int .u64) ([1])) N.t_uint64) (both it26 (both it24 (both it22 (both it21 (both it20 (both it17 it12))))))))))) (ed41.mono (incl_one mp0))
 replace ed38:=AllD.both (L:=[]) (x:=it41) (ed38.mono (incl_one mp1))
 replace hz30:=Ent.both (L:=[]) (x:=it41) (hz30.mono (incl_one mp1))
 replace hz31:=Ent.both (L:=[]) (x:=it41) (hz31.mono (incl_one mp1))
 obtain ⟨t96,ht96,h⟩:=bnd h
 obtain rfl:([2]:List Int)=t96:=some_inj ht96
 refine lit_s (ks:=[2]) (enc:=(Value.int .u64)) (m:=1) hS rfl rfl ?_;intro r42 w hS
 obtain ⟨⟨t97,t98⟩,ho97,h⟩:=bnd h
 refine wk_inertia_Below H hS (Ent.sl mp2) (ed41.mono (incl_one mp1)) (Ent.sl mp0) ho97 ?_;clear hS ho97;rintro w hS
 refine ⟨_,_,rfl,?_⟩
 obtain ⟨t99,ht99,h⟩:=bnd h
 obtain ⟨rfl,kt99⟩:=mkE ht99
 have ed44:=AllD.repl (L:=[(both it41 (both it38 (both it36 (both (sl (some ⟨r29,0,none⟩) 1 1 (List.map (Value.int .u64) ([1])) N.t_uint64) (both (sl (some ⟨r28,0,none⟩) 1 1 (List.map (Value.int .u64) ([1])) N.t_uint64) (both it26 (both it24 (both it22 (both it21 (both it20 (both it17 it12)))))))))))]) (b:=false) (e:=0) (2304:Int).toNat
 refine mkD_s hS kt99 rfl ?_;clear hS kt99;intro r43 w hS
 refine newM_s hS ?_;intro r45 w hS
 refine stc_s hS rfl rfl ?_;intro w hS
 refine stc_s hS rfl rfl ?_;intro w hS
 refine stc_s hS rfl rfl ?_;intro w hS
 obtain ⟨o49,h49,c49⟩:=bnd h
 refine cutM_i (fun s w=>∃ (t100:List Dy) (hh46:List Hd) (it48:It),t100=o49∧s=(())∧AllD [it48] t100 hh46∧Ho w0 w ((cl r45 [.int .i64 48,.int .i64 48,.slice (some ⟨r43,0,none⟩) ((2304:Int).toNat) ((2304:Int).toNat)] N.t_Dyads)::(sl (some ⟨r43,0,none⟩) (((2304:Int).toNat)*3) (((2304:Int).toNat)*3) (dyC t100 hh46) N.t_Dyad)::it48::L)) (fun J49 hJ49=>?_) ?_
 ·
  have h:=h49
  clear h49
  refine iter_sim (fun s w t=>∃ (t101:Int) (t102:List Dy) (hh50:List Hd) (it52:It),(t101,t102)=t∧s=(t101,())∧AllD [it52] t102 hh50∧Ho w0 w ((cl r45 [.int .i64 48,.int .i64 48,.slice (some ⟨r43,0,none⟩) ((2304:Int).toNat) ((2304:Int).toNat)] N.t_Dyads)::(sl (some ⟨r43,0,none⟩) (((2304:Int).toNat)*3) (((2304:Int).toNat)*3) (dyC t102 hh50) N.t_Dyad)::it52::L)) ?_ h ⟨_,_,_,_,rfl,rfl,ed44,(hS.pick (A:=[_,_,_,_,_,_,_,_]) [0,0,1] rfl)⟩
  clear h hS
  rintro s w t X q ⟨t101,t102,hh50,it52,rfl,rfl,ed51,hS⟩ h hX hO
  unfold T_w16_InertiaNumbers_b2 at h
  try dsimp only
  refine cond_s h ?_ ?_<;>intro hc h
  ·
   refine ⟨_,_,_,hS.cel mp0 rfl,?_⟩
   refine ⟨by decide,?_⟩
   refine drM_s hS ?_;intro w hS
   obtain ⟨⟨t103,t104,t105⟩,ho103,h⟩:=bnd h
   refine wk_r02_Int H hS  ho103 ?_;clear hS ho103;rintro a53 m53 c53 w hS
   refine ⟨_,_,_,_,_,rfl,?_⟩
   refine ⟨(hS.cel mp1 rfl),?_⟩
   obtain ⟨t106,ht106,h⟩:=bnd h
   obtain ⟨gq54,q54x,q54k,q54l,q54r,q54e⟩:=AllD.atE ed51 ht106
   refine idxD_s ed51.len ((Ent.sl mp2).now (fun _ h=>h) hS) q54l q54r ?_;intro b55 hb55
   refine drM_s hS ?_;intro w hS
   have hz56:Ent [sl a53 m53 c53 (List.map (Value.int .u64) t104) N.t_uint64] (rdA (List.map (Value.int .u64) t104) a53 m53 c53):=(Ent.sl (L:=[sl a53 m53 c53 (List.map (Value.int .u64) t104) N.t_uint64]) mp0)
   replace hS:=ro3 hS
   replace hS:=ro1 hS
   replace hS:=hS.both
   replace hz56:=Ent.both (L:=[]) (y:=it52) (hz56.mono (incl_one mp0))
   replace ed51:=AllD.both (L:=[]) (x:=(sl a53 m53 c53 (List.map (Value.int .u64) t104) N.t_uint64)) (ed51.mono (incl_one mp1))
   replace hz30:=Ent.both (L:=[]) (x:=(sl a53 m53 c53 (List.map (Value.int .u64) t104) N.t_uint64)) (hz30.mono (incl_one mp1))
   replace hz31:=Ent.both (L:=[]) (x:=(sl a53 m53 c53 (List.map (Value.int .u64) t104) N.t_uint64)) (hz31.mono (incl_one mp1))
   replace q54e:=Ent.both (L:=[]) (x:=(sl a53 m53 c53 (List.map (Value.int .u64) t104) N.t_uint64)) (q54e.mono (incl_one mp1))
   replace hS:=ro2 hS
   obtain ⟨t107,ht107,h⟩:=bnd h
   obtain rfl:=some_inj ht107
   have ed57:=ed51.set (x:=(t103,t104,t105)) (g:=(a53,m53,c53)) hz56 ((IntKind.i64.wrap (49*t101))).toNat
   refine stoD_s (x:=(t103,t104,t105)) (g:=(a53,m53,c53)) hS ed51.len hb55 q54r ?_;intro w hS
   refine drM_s hS ?_;intro w hS
   obtain rfl:=some_inj h
   exact hX _ rfl _ _ ⟨_,_,_,_,rfl,rfl,ed57,(hS.pick (A:=[_,_,_]) [2,0,0] rfl)⟩
  obtain rfl:=some_inj h
  have h:=congrArg some (hO _ rfl)
  obtain rfl:=some_inj h
  exact hJ49 _ _ ⟨_,_,_,rfl,rfl,ed51,hS⟩
 clear h49 hS
 rintro s w ⟨t100,hh46,it48,rfl,rfl,ed47,hS⟩
 have h:=c49
 clear c49
 try dsimp only
 obtain ⟨t108,ht108,h⟩:=bnd h
 obtain rfl:([1]:List Int)=t108:=some_inj ht108
 refine lit_s (ks:=[1]) (enc:=(Value.int .u64)) (m:=1) hS rfl rfl ?_;intro r58 w hS
 obtain ⟨⟨t109,t110,t111⟩,ho109,h⟩:=bnd h
 refine wk_r02_Int H hS  ho109 ?_;clear hS ho109;rintro a59 m59 c59 w hS
 refine ⟨_,_,_,_,_,rfl,?_⟩
 obtain ⟨⟨t112,t113,t114,t115⟩,ho112,h⟩:=bnd h
 refine wk_r02_Add H hS (Ent.sl mp1) (Ent.sl mp0) ho112 ?_;clear hS ho112;rintro a60 m60 c60 w hS
 refine ⟨_,_,_,_,_,_,rfl,?_⟩
 refine newM_s hS ?_;intro r61 w hS
 refine stc_s hS rfl rfl ?_;intro w hS
 refine stc_s hS rfl rfl ?_;intro w hS
 refine stc_s hS rfl rfl ?_;intro w hS
 refine ⟨_,hS.cel mp0 rfl,_,_,_,hS.cel mp0 rfl,_,hS.cel mp0 rfl,_,hS.cel mp0 rfl,_,_,_,hS.cel mp0 rfl,_,hS.cel mp0 rfl,?_⟩
 replace hS:=ro1 hS
 have hz62:Ent [sl a60 m60 c60 (List.map (Value.int .u64) t113) N.t_uint64] (rdA (List.map (Value.int .u64) t113) a60 m60 c60):=(Ent.sl (L:=[sl a60 m60 c60 (List.map (Value.int .u64) t113) N.t_uint64]) mp0)
 replace hS:=ro6 hS
 replace hS:=ro1 hS
 replace hS:=hS.both
 replace hz62:=Ent.both (L:=[]) (y:=it48) (hz62.mono (incl_one mp0))
 replace ed47:=AllD.both (L:=[]) (x:=(sl a60 m60 c60 (List.map (Value.int .u64) t113) N.t_uint64)) (ed47.mono (incl_one mp1))
 replace hz30:=Ent.both (L:=[]) (x:=(sl a60 m60 c60 (List.map (Value.int .u64) t113) N.t_uint64)) (hz30.mono (incl_one mp1))
 replace hz31:=Ent.both (L:=[]) (x:=(sl a60 m60 c60 (List.map (Value.int .u64) t113) N.t_uint64)) (hz31.mono (incl_one mp1))
 obtain ⟨t116,ht116,h⟩:=bnd h
 obtain rfl:([(t112,t113,t114),(false,[],0),(false,[],0),(t112,t113,t114)]:List Dy)=t116:=some_inj ht116
 have ed64:AllD [(both (sl a60 m60 c60 (List.map (Value.int .u64) t113) N.t_uint64) it48)] ([(t112,t113,t114),(false,[],0),(false,[],0),(t112,t113,t114)]:List Dy) ([(a60,m60,c60),(none,0,0),(none,0,0),(a60,m60,c60)]:List Hd):=(.cons hz62 (.cons (Ent.nil (enc:=Value.int .u64) _) (.cons (Ent.nil (enc:=Value.int .u64) _) (.cons hz62 .nil))))
 refine litD_s (X:=([(t112,t113,t114),(false,[],0),(false,[],0),(t112,t113,t114)]:List Dy)) (H:=([(a60,m60,c60),(none,0,0),(none,0,0),(a60,m60,c60)]:List Hd)) (m:=4) hS rfl rfl rfl ?_;intro r63 w hS
 refine newM_s hS ?_;intro r65 w hS
 refine stc_s hS rfl rfl ?_;intro w hS
 refine stc_s hS rfl rfl ?_;intro w hS
 refine stc_s hS rfl rfl ?_;intro w hS
 refine ⟨_,hS.cel mp0 rfl,_,hS.cel mp0 rfl,_,_,_,hS.cel mp0 rfl,?_⟩
 refine drM_s hS ?_;intro w hS
 obtain ⟨⟨t117,t118,t119⟩,ho117,h⟩:=bnd h
 refine wk_r02_Int H hS  ho117 ?_;clear hS ho117;rintro a66 m66 c66 w hS
 refine ⟨_,_,_,_,_,rfl,?_⟩
 refine ⟨(hS.cel mp1 rfl),?_⟩
 refine ⟨(hS.cel mp1 rfl),?_⟩
 refine ⟨(hS.cel mp1 rfl),?_⟩
 refine drM_s hS ?_;intro w hS
 obtain ⟨⟨t120,t121⟩,ho120,h⟩:=bnd h
 refine wk_inertia_Below H hS (Ent.sl mp2) (ed64.mono (incl_one mp3)) (Ent.sl mp0) ho120 ?_;clear hS ho120;rintro w hS
 refine ⟨_,_,rfl,?_⟩
 refine drM_s hS ?_;intro w hS
 obtain ⟨t122,ht122,h⟩:=bnd h
 obtain rfl:([1]:List Int)=t122:=some_inj ht122
 refine lit_s (ks:=[1]) (enc:=(Value.int .i64)) (m:=1) hS rfl rfl ?_;intro r67 w hS
 obtain ⟨⟨t123,t124,t125⟩,ho123,h⟩:=bnd h
 refine wk_w16_of H hS (Ent.sl mp0) ho123 ?_;clear hS ho123;rintro a68 m68 c68 hh68 it68 w ed68 hS
 refine ⟨_,_,_,_,_,rfl,?_⟩
 replace ed68:=ed68 [it68] mp0
 replace hS:=ro6 hS
 replace hS:=ro2 hS
 replace hS:=hS.both
 replace ed68:=AllD.both (L:=[]) (y:=(both (sl a60 m60 c60 (List.map (Value.int .u64) t113) N.t_uint64) it48)) (ed68.mono (incl_one mp0))
 replace ed64:=AllD.both (L:=[]) (x:=it68) (ed64.mono (incl_one mp1))
 replace ed47:=AllD.both (L:=[]) (x:=it68) (ed47.mono (incl_one mp1))
 replace hz30:=Ent.both (L:=[]) (x:=it68) (hz30.mono (incl_one mp1))
 replace hz31:=Ent.both (L:=[]) (x:=it68) (hz31.mono (incl_one mp1))
 replace hz62:=Ent.both (L:=[]) (x:=it68) (hz62.mono (incl_one mp1))
 obtain ⟨t126,ht126,h⟩:=bnd h
 obtain rfl:([1]:List Int)=t126:=some_inj ht126
 refine lit_s (ks:=[1]) (enc:=(Value.int .u64)) (m:=1) hS rfl rfl ?_;intro r69 w hS
 obtain ⟨⟨t127,t128⟩,ho127,h⟩:=bnd h
 refine wk_inertia_Below H hS (Ent.sl mp2) (ed68.mono (incl_one mp1)) (Ent.sl mp0) ho127 ?_;clear hS ho127;rintro w hS
 refine ⟨_,_,rfl,?_⟩
 obtain ⟨t129,ht129,h⟩:=bnd h
 obtain rfl:([1,0,1,0,1,0,2,0,1]:List Int)=t129:=some_inj ht129
 refine lit_s (ks:=[1,0,1,0,1,0,2,0,1]) (enc:=(Value.int .i64)) (m:=9) hS rfl rfl ?_;intro r70 w hS
 obtain ⟨⟨t130,t131,t132⟩,ho130,h⟩:=bnd h
 refine wk_w16_of H hS (Ent.sl mp0) ho130 ?_;clear hS ho130;rintro a71 m71 c71 hh71 it71 w ed71 hS
 refine ⟨_,_,_,_,_,rfl,?_⟩
 replace ed71:=ed71 [it71] mp0
 replace hS:=ro4 hS
 replace hS:=ro2 hS
 replace hS:=hS.both
 replace ed71:=AllD.both (L:=[]) (y:=(both it68 (both (sl a60 m60 c60 (List.map (Value.int .u64) t113) N.t_uint64) it48))) (ed71.mono (incl_one mp0))
 replace ed68:=AllD.both (L:=[]) (x:=it71) (ed68.mono (incl_one mp1))
 replace ed64:=AllD.both (L:=[]) (x:=it71) (ed64.mono (incl_one mp1))
 replace ed47:=AllD.both (L:=[]) (x:=it71) (ed47.mono (incl_one mp1))
 replace hz30:=Ent.both (L:=[]) (x:=it71) (hz30.mono (incl_one mp1))
 replace hz31:=Ent.both (L:=[]) (x:=it71) (hz31.mono (incl_one mp1))
 replace hz62:=Ent.both (L:=[]) (x:=it71) (hz62.mono (incl_one mp1))
 obtain ⟨⟨t133,t134,t135,t136⟩,ho133,h⟩:=bnd h
 refine wk_inertia_Signs H hS (Ent.sl mp1) (ed71.mono (incl_one mp0)) ho133 ?_;clear hS ho133;rintro w hS
 refine ⟨_,_,_,_,rfl,?_⟩
 refine newM_s hS ?_;intro r72 w hS
 refine stc_s hS rfl rfl ?_;intro w hS
 refine stc_s hS rfl rfl ?_;intro w hS
 refine stc_s hS rfl rfl ?_;intro w hS
 obtain ⟨o73,h73,c73⟩:=bnd h
 refine cutM_i (fun s w=>∃ (t137:Bool),t137=o73∧s=(t137,())∧Ho w0 w ((cl r45 [.int .i64 48,.int .i64 48,.slice (some ⟨r43,0,none⟩) ((2304:Int).toNat) ((2304:Int).toNat)] N.t_Dyads)::(sl (some ⟨r43,0,none⟩) (((2304:Int).toNat)*3) (((2304:Int).toNat)*3) (dyC t100 hh46) N.t_Dyad)::(both it71 (both it68 (both (sl a60 m60 c60 (List.map (Value.int .u64) t113) N.t_uint64) it48)))::L)) (fun J73 hJ73=>?_) ?_
 ·
  have h:=h73
  clear h73
  refine cond_s h ?_ ?_<;>intro hc h
  ·
   refine cond_s h ?_ ?_<;>intro hc h
   ·
    refine cond_s h ?_ ?_<;>intro hc h
    ·
     obtain rfl:=some_inj h
     exact hJ73 _ _ ⟨_,rfl,rfl,(hS.pick (A:=[_,_,_,_,_,_,_,_,_,_,_,_,_,_,_]) [13,13,1] rfl)⟩
    obtain rfl:=some_inj h
    exact hJ73 _ _ ⟨_,rfl,rfl,(hS.pick (A:=[_,_,_,_,_,_,_,_,_,_,_,_,_,_,_]) [13,13,1] rfl)⟩
   obtain rfl:=some_inj h
   exact hJ73 _ _ ⟨_,rfl,rfl,(hS.pick (A:=[_,_,_,_,_,_,_,_,_,_,_,_,_,_,_]) [13,13,1] rfl)⟩
  obtain rfl:=some_inj h
  exact hJ73 _ _ ⟨_,rfl,rfl,(hS.pick (A:=[_,_,_,_,_,_,_,_,_,_,_,_,_,_,_]) [13,13,1] rfl)⟩
 clear h73 hS
 rintro s w ⟨t137,rfl,rfl,hS⟩
 have h:=c73
 clear c73
 try dsimp only
 refine cond_s h ?_ ?_<;>intro hc h
 ·
  cases some_inj h
  exact hK _ (hS.pick (A:=[_,_,_]) [] rfl)
 refine ⟨_,hS.cel mp0 rfl,_,hS.cel mp0 rfl,_,_,_,hS.cel mp0 rfl,?_⟩
 obtain ⟨⟨t138,t139,t140,t141⟩,ho138,h⟩:=bnd h
 refine wk_inertia_Signs H hS (Ent.sl mp1) (ed47.mono (incl_one mp2)) ho138 ?_;clear hS ho138;rintro w hS
 refine ⟨_,_,_,_,rfl,?_⟩
 refine newM_s hS ?_;intro r74 w hS
 refine stc_s hS rfl rfl ?_;intro w hS
 refine stc_s hS rfl rfl ?_;intro w hS
 refine stc_s hS rfl rfl ?_;intro w hS
 obtain ⟨t142,ht142,h⟩:=bnd h
 obtain ⟨rfl,kt142⟩:=mkE ht142
 have ed76:=AllD.repl (L:=[(both it71 (both it68 (both (sl a60 m60 c60 (List.map (Value.int .u64) t113) N.t_uint64) it48)))]) (b:=false) (e:=0) (2401:Int).toNat
 refine mkD_s hS kt142 rfl ?_;clear hS kt142;intro r75 w hS
 obtain ⟨⟨t143,t144,t145,t146⟩,ho143,h⟩:=bnd h
 refine wk_inertia_Signs H hS (Ent.sl mp0) (ed76.mono (incl_one mp4)) ho143 ?_;clear hS ho143;rintro w hS
 refine ⟨_,_,_,_,rfl,?_⟩
 refine newM_s hS ?_;intro r77 w hS
 refine stc_s hS rfl rfl ?_;intro w hS
 refine stc_s hS rfl rfl ?_;intro w hS
 refine stc_s hS rfl rfl ?_;intro w hS
 refine cond_s h ?_ ?_<;>intro hc h
 ·
  refine cond_s h ?_ ?_<;>intro hc h
  ·
   refine cond_s h ?_ ?_<;>intro hc h
   ·
    refine cond_s h ?_ ?_<;>intro hc h
    ·
     refine cond_s h ?_ ?_<;>intro hc h
     ·
      refine cond_s h ?_ ?_<;>intro hc h
      ·
       refine ⟨_,hS.cel mp2 rfl,_,hS.cel mp2 rfl,_,hS.cel mp2 rfl,?_⟩
       refine cond_s h ?_ ?_<;>intro hc h
       ·
        refine cond_s h ?_ ?_<;>intro hc h
        ·
         obtain ⟨t147,ht147,h⟩:=bnd h
         refine wk_w16_awake H hS  ht147 ?_;rintro w hS
         refine ⟨_,rfl,?_⟩
         cases some_inj h
         exact hK _ (hS.pick (A:=[_,_,_,_,_,_]) [] rfl)
        cases some_inj h
        exact hK _ (hS.pick (A:=[_,_,_,_,_,_]) [] rfl)
       cases some_inj h
       exact hK _ (hS.pick (A:=[_,_,_,_,_,_]) [] rfl)
      cases some_inj h
      exact hK _ (hS.pick (A:=[_,_,_,_,_,_]) [] rfl)
     cases some_inj h
     exact hK _ (hS.pick (A:=[_,_,_,_,_,_]) [] rfl)
    cases some_inj h
    exact hK _ (hS.pick (A:=[_,_,_,_,_,_]) [] rfl)
   cases some_inj h
   exact hK _ (hS.pick (A:=[_,_,_,_,_,_]) [] rfl)
  cases some_inj h
  exact hK _ (hS.pick (A:=[_,_,_,_,_,_]) [] rfl)
 cases some_inj h
 exact hK _ (hS.pick (A:=[_,_,_,_,_,_]) [] rfl)
end Go.Eng
