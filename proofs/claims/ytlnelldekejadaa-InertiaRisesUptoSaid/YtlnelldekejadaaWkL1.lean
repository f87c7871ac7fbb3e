/-
 Each function comes to what its function of plain Lean says, printed by a program of the session. No condition.
-/
import Derived.Test.YtlnelldekejadaaTpL
import Derived.Test.YtlnelldekejadaaWk
set_option linter.all false
set_option maxRecDepth 100000
set_option maxHeartbeats 4000000
namespace Go.Eng
open Go
variable {N:Nums} {P:Program} (H:AllOk N P) {w0 w:World} {L:List It} {K:Value→World→Prop}
include H
theorem wk_inertia_Signs {q0_0 q0_1 q0_2 q0_2l q0_2c} {H0_2:List Hd} {l0_2:List Dy} {u0 u1 u2 u3} (hS:Ho w0 w L) (hq0_2:Ent L (rdA (dyC l0_2 H0_2) q0_2 (q0_2l*3) (q0_2c*3))) (gq0_2:AllD L l0_2 H0_2) (hx:T_inertia_Signs q0_0 q0_1 l0_2=some (u0,u1,u2,u3)) (hK:∀ w1,Ho w0 w1 L→K (.tuple #[.agg #[.int .i64 u0,.int .i64 u1,.int .i64 u2],.int .i64 u3]) w1):CallsX P N.f_inertia_Signs #[.agg #[.int .i64 q0_0,.int .i64 q0_1,.slice q0_2 q0_2l q0_2c]] w K:=by
 unfold T_inertia_Signs at hx
 exact wkH_Signs H hS hq0_2 gq0_2 hx hK
theorem wk_inertia_Poly {q0_0 q0_1 q0_2 q0_2l q0_2c} {H0_2:List Hd} {l0_2:List Dy} {u0:List Dy} {u1} (hS:Ho w0 w L) (hq0_2:Ent L (rdA (dyC l0_2 H0_2) q0_2 (q0_2l*3) (q0_2c*3))) (gq0_2:AllD L l0_2 H0_2) (hx:T_inertia_Poly q0_0 q0_1 l0_2=some (u0,u1)) (hK:∀ (a0:Option Addr) (n0 c0:Nat) (hh0:List Hd) (it0:It) (w1:World),(∀ L1,it0∈L1→AllD L1 u0 hh0)→Ho w0 w1 ((sl a0 (n0*3) (c0*3) (dyC u0 hh0) N.t_Dyad)::it0::L)→K (.tuple #[.slice a0 n0 c0,.int .i64 u1]) w1):CallsX P N.f_inertia_Poly #[.agg #[.int .i64 q0_0,.int .i64 q0_1,.slice q0_2 q0_2l q0_2c]] w K:=by
 unfold T_inertia_Poly at hx
 exact wkH_Poly H hS hq0_2 gq0_2 hx hK
theorem wk_inertia_Below {q0_0 q0_1 q0_2 q0_2l q0_2c} {H0_2:List Hd} {l0_2:List Dy} {q1_0 q1_1 q1_1l q1_1c l1_1 q1_2 u0 u1} (hS:Ho w0 w L) (hq0_2:Ent L (rdA (dyC l0_2 H0_2) q0_2 (q0_2l*3) (q0_2c*3))) (gq0_2:AllD L l0_2 H0_2) (hq1_1:EU L l1_1 q1_1 q1_1l q1_1c) (hx:T_inertia_Below q0_0 q0_1 l0_2 q1_0 l1_1 q1_2=some (u0,u1)) (hK:∀ w1,Ho w0 w1 L→K (.tuple #[.int .i64 u0,.int .i64 u1]) w1):CallsX P N.f_inertia_Below #[.agg #[.int .i64 q0_0,.int .i64 q0_1,.slice q0_2 q0_2l q0_2c],.agg #[.bool q1_0,.slice q1_1 q1_1l q1_1c,.int .i64 q1_2]] w K:=by
 unfold T_inertia_Below at hx
 exact wkH_Below H hS hq0_2 gq0_2 hq1_1 hx hK
theorem wk_w16_awake  {u0} (hS:Ho w0 w L)  (h:T_w16_awake  = some u0) (hK:∀ w1,Ho w0 w1 L→K (.bool u0) w1):CallsX P N.f_w16_awake #[] w K:=by
 refine H.w16_awake  w _ ?_
 unfold S_w16_awake
 unfold T_w16_awake at h
 try dsimp only
 replace hS:=hS.voidItem
 obtain ⟨t1,ht1,h⟩:=bnd h
 obtain rfl:([1,2,2,1]:List Int)=t1:=some_inj ht1
 refine lit_s (ks:=[1,2,2,1]) (enc:=(Value.int .i64)) (m:=4) hS rfl rfl ?_;intro r1 w hS
 obtain ⟨⟨t2,t3,t4⟩,ho2,h⟩:=bnd h
 refine wk_w16_of H hS (Ent.sl mp0) ho2 ?_;clear hS ho2;rintro a2 m2 c2 hh2 it2 w ed2 hS
 refine ⟨_,_,_,_,_,rfl,?_⟩
 replace ed2:=ed2 [it2] mp0
 replace hS:=ro3 hS
 replace hS:=ro2 hS
 replace hS:=hS.both
 replace ed2:=AllD.both (L:=[]) (y:=vd) (ed2.mono (incl_one mp0))
 obtain ⟨⟨t5,t6,t7,t8⟩,ho5,h⟩:=bnd h
 refine wk_inertia_Signs H hS (Ent.sl mp1) (ed2.mono (incl_one mp0)) ho5 ?_;clear hS ho5;rintro w hS
 refine ⟨_,_,_,_,rfl,?_⟩
 refine newM_s hS ?_;intro r3 w hS
 refine stc_s hS rfl rfl ?_;intro w hS
 refine stc_s hS rfl rfl ?_;intro w hS
 refine stc_s hS rfl rfl ?_;intro w hS
 obtain ⟨t9,ht9,h⟩:=bnd h
 obtain rfl:([1,2,2,1]:List Int)=t9:=some_inj ht9
 refine lit_s (ks:=[1,2,2,1]) (enc:=(Value.int .i64)) (m:=4) hS rfl rfl ?_;intro r4 w hS
 obtain ⟨⟨t10,t11,t12⟩,ho10,h⟩:=bnd h
 refine wk_w16_of H hS (Ent.sl mp0) ho10 ?_;clear hS ho10;rintro a5 m5 c5 hh5 it5 w ed5 hS
 refine ⟨_,_,_,_,_,rfl,?_⟩
 replace ed5:=ed5 [it5] mp0
 replace hS:=ro4 hS
 replace hS:=ro2 hS
 replace hS:=hS.both
 replace ed5:=AllD.both (L:=[]) (y:=(both it2 vd)) (ed5.mono (incl_one mp0))
 replace ed2:=AllD.both (L:=[]) (x:=it5) (ed2.mono (incl_one mp1))
 obtain ⟨⟨t13,t14⟩,ho13,h⟩:=bnd h
 refine wk_inertia_Poly H hS (Ent.sl mp1) (ed5.mono (incl_one mp0)) ho13 ?_;clear hS ho13;rintro a6 m6 c6 hh6 it6 w ed6 hS
 refine ⟨_,_,_,_,rfl,?_⟩
 replace ed6:=ed6 [it6] mp0
 replace hS:=ro2 hS
 replace hS:=ro2 hS
 replace hS:=hS.both
 replace ed6:=AllD.both (L:=[]) (y:=(both it5 (both it2 vd))) (ed6.mono (incl_one mp0))
 replace ed5:=AllD.both (L:=[]) (x:=it6) (ed5.mono (incl_one mp1))
 replace ed2:=AllD.both (L:=[]) (x:=it6) (ed2.mono (incl_one mp1))
 obtain ⟨t15,ht15,h⟩:=bnd h
 obtain rfl:([1,2,2,1]:List Int)=t15:=some_inj ht15
 refine lit_s (ks:=[1,2,2,1]) (enc:=(Value.int .i64)) (m:=4) hS rfl rfl ?_;intro r7 w hS
 obtain ⟨⟨t16,t17,t18⟩,ho16,h⟩:=bnd h
 refine wk_w16_of H hS (Ent.sl mp0) ho16 ?_;clear hS ho16;rintro a8 m8 c8 hh8 it8 w ed8 hS
 refine ⟨_,_,_,_,_,rfl,?_⟩
 replace ed8:=ed8 [it8] mp0
 replace hS:=ro3 hS
 replace hS:=ro2 hS
 replace hS:=hS.both
 replace ed8:=AllD.both (L:=[]) (y:=(both it6 (both it5 (both it2 vd)))) (ed8.mono (incl_one mp0))
 replace ed6:=AllD.both (L:=[]) (x:=it8) (ed6.mono (incl_one mp1))
 replace ed5:=AllD.both (L:=[]) (x:=it8) (ed5.mono (incl_one mp1))
 replace ed2:=AllD.both (L:=[]) (x:=it8) (ed2.mono (incl_one mp1))
 obtain ⟨⟨t19,t20,t21⟩,ho19,h⟩:=bnd h
 refine wk_r02_Int H hS  ho19 ?_;clear hS ho19;rintro a9 m9 c9 w hS
 refine ⟨_,_,_,_,_,rfl,?_⟩
 obtain ⟨⟨t22,t23⟩,ho22,h⟩:=bnd h
 refine wk_inertia_Below H hS (Ent.sl mp2) (ed8.mono (incl_one mp1)) (Ent.sl mp0) ho22 ?_;clear hS ho22;rintro w hS
 refine ⟨_,_,rfl,?_⟩
 refine cond_s h ?_ ?_<;>intro hc h
 ·
  refine cond_s h ?_ ?_<;>intro hc h
  ·
   refine cond_s h ?_ ?_<;>intro hc h
   ·
    refine cond_s h ?_ ?_<;>intro hc h
    ·
     refine ⟨_,hS.cel mp7 rfl,_,hS.cel mp7 rfl,_,hS.cel mp7 rfl,?_⟩
     refine cond_s h ?_ ?_<;>intro hc h
     ·
      obtain ⟨t24,ht24,h⟩:=bnd h
      obtain rfl:([(-3),(-2),1]:List Int)=t24:=some_inj ht24
      refine lit_s (ks:=[(-3),(-2),1]) (enc:=(Value.int .i64)) (m:=3) hS rfl rfl ?_;intro r10 w hS
      obtain ⟨⟨t25,t26,t27⟩,ho25,h⟩:=bnd h
      refine wk_w16_of H hS (Ent.sl mp0) ho25 ?_;clear hS ho25;rintro a11 m11 c11 hh11 it11 w ed11 hS
      refine ⟨_,_,_,_,_,rfl,?_⟩
      replace ed11:=ed11 [it11] mp0
      replace hS:=ro4 hS
      replace hS:=ro2 hS
      replace hS:=hS.both
      replace ed11:=AllD.both (L:=[]) (y:=(both it8 (both it6 (both it5 (both it2 vd))))) (ed11.mono (incl_one mp0))
      replace ed8:=AllD.both (L:=[]) (x:=it11) (ed8.mono (incl_one mp1))
      replace ed6:=AllD.both (L:=[]) (x:=it11) (ed6.mono (incl_one mp1))
      replace ed5:=AllD.both (L:=[]) (x:=it11) (ed5.mono (incl_one mp1))
      replace ed2:=AllD.both (L:=[]) (x:=it11) (ed2.mono (incl_one mp1))
      obtain ⟨t28,ht28,h⟩:=bnd h
      refine wk_k_SameDyads H hS (Ent.sl mp6) (ed6.mono (incl_one mp0)) (Ent.sl mp1) (ed11.mono (incl_one mp0)) ht28 ?_;rintro w hS
      refine ⟨_,rfl,?_⟩
      cases some_inj h
      exact hK _ (hS.pick (A:=[_,_,_,_,_,_,_,_,_,_,_,_]) [] rfl)
     cases some_inj h
     exact hK _ (hS.pick (A:=[_,_,_,_,_,_,_,_,_,_]) [] rfl)
    cases some_inj h
    exact hK _ (hS.pick (A:=[_,_,_,_,_,_,_,_,_,_]) [] rfl)
   cases some_inj h
   exact hK _ (hS.pick (A:=[_,_,_,_,_,_,_,_,_,_]) [] rfl)
  cases some_inj h
  exact hK _ (hS.pick (A:=[_,_,_,_,_,_,_,_,_,_]) [] rfl)
 cases some_inj h
 exact hK _ (hS.pick (A:=[_,_,_,_,_,_,_,_,_,_]) [] rfl)
theorem wk_w16_InertiaRises {q0_0 q0_1 q0_2 q0_2l q0_2c} {H0_2:List Hd} {l0_2:List Dy} {q1_0 q1_1 q1_1l q1_1c l1_1 q1_2 q2_0 q2_1 q2_1l q2_1c l2_1 q2_2 u0} (hS:Ho w0 w L) (hq0_2:Ent L (rdA (dyC l0_2 H0_2) q0_2 (q0_2l*3) (q0_2c*3))) (gq0_2:AllD L l0_2 H0_2) (hq1_1:EU L l1_1 q1_1 q1_1l q1_1c) (hq2_1:EU L l2_1 q2_1 q2_1l q2_1c) (h:T_w16_InertiaRises q0_0 q0_1 l0_2 q1_0 l1_1 q1_2 q2_0 l2_1 q2_2=some u0) (hK:∀ w1,Ho w0 w1 L→K (.bool u0) w1):CallsX P N.f_w16_InertiaRises #[.agg #[.int .i64 q0_0,.int .i64 q0_1,.slice q0_2 q0_2l q0_2c],.agg #[.bool q1_0,.slice q1_1 q1_1l q1_1c,.int .i64 q1_2],.agg #[.bool q2_0,.slice q2_1 q2_1l q2_1c,.int .i64 q2_2]] w K:=by
 refine H.w16_InertiaRises q0_0 q0_1 q0_2 q0_2l q0_2c q1_0 q1_1 q1_1l q1_1c q1_2 q2_0 q2_1 q2_1l q2_1c q2_2 w _ ?_
 unfold S_w16_InertiaRises
 unfold T_w16_InertiaRises at h
 try dsimp only
 replace hS:=hS.voidItem
 refine newM_s hS ?_;intro r1 w hS
 refine newM_s hS ?_;intro r2 w hS
 refine newM_s hS ?_;intro r3 w hS
 obtain ⟨o4,h4,c4⟩:=bnd h
 refine cutM_i (fun s w=>∃ (t1:Bool),t1=o4∧s=(t1,())∧Ho w0 w ((cl r3 [.bool q2_0,.slice q2_1 q2_1l q2_1c,.int .i64 q2_2] N.t_Dyad)::(cl r2 [.bool q1_0,.slice q1_1 q1_1l q1_1c,.int .i64 q1_2] N.t_Dyad)::(cl r1 [.int .i64 q0_0,.int .i64 q0_1,.slice q0_2 q0_2l q0_2c] N.t_Dyads)::vd::L)) (fun J4 hJ4=>?_) ?_
 ·
  have h:=h4
  clear h4
  refine ⟨_,hS.cel mp2 rfl,_,hS.cel mp2 rfl,_,_,_,hS.cel mp2 rfl,?_⟩
  obtain ⟨t2,ht2,h⟩:=bnd h
  refine wk_w16_great H hS (hq0_2.mono tl4) (gq0_2.mono tl4) ht2 ?_;rintro w hS
  refine ⟨_,rfl,?_⟩
  refine cond_s h ?_ ?_<;>intro hc h
  ·
   refine ⟨_,_,_,hS.cel mp1 rfl,?_⟩
   obtain ⟨t3,ht3,h⟩:=bnd h
   obtain rfl:=lenE ht3 ((hq1_1.mono tl4).now (fun _ h=>h) hS)
   refine ⟨_,_,_,hS.cel mp0 rfl,?_⟩
   obtain ⟨t4,ht4,h⟩:=bnd h
   obtain rfl:=lenE ht4 ((hq2_1.mono tl4).now (fun _ h=>h) hS)
   refine cond_s h ?_ ?_<;>intro hc h
   ·
    refine ⟨_,hS.cel mp2 rfl,_,hS.cel mp2 rfl,_,_,_,hS.cel mp2 rfl,?_⟩
    obtain ⟨t5,ht5,h⟩:=bnd h
    refine wk_inertia_Symmetric H hS (hq0_2.mono tl4) (gq0_2.mono tl4) ht5 ?_;rintro w hS
    refine ⟨_,rfl,?_⟩
    refine cond_s h ?_ ?_<;>intro hc h
    ·
     refine ⟨_,hS.cel mp1 rfl,_,_,_,hS.cel mp1 rfl,_,hS.cel mp1 rfl,?_⟩
     obtain ⟨t6,ht6,h⟩:=bnd h
     refine wk_dyad_Right H hS (hq1_1.mono tl4) ht6 ?_;rintro w hS
     refine ⟨_,rfl,?_⟩
     refine cond_s h ?_ ?_<;>intro hc h
     ·
      refine ⟨_,hS.cel mp0 rfl,_,_,_,hS.cel mp0 rfl,_,hS.cel mp0 rfl,?_⟩
      obtain ⟨t7,ht7,h⟩:=bnd h
      refine wk_dyad_Right H hS (hq2_1.mono tl4) ht7 ?_;rintro w hS
      refine ⟨_,rfl,?_⟩
      exact hJ4 _ _ ⟨_,some_inj h,rfl,hS⟩
     exact hJ4 _ _ ⟨_,some_inj h,rfl,hS⟩
    exact hJ4 _ _ ⟨_,some_inj h,rfl,hS⟩
   exact hJ4 _ _ ⟨_,some_inj h,rfl,hS⟩
  exact hJ4 _ _ ⟨_,some_inj h,rfl,hS⟩
 clear h4 hS
 rintro s w ⟨t1,rfl,rfl,hS⟩
 have h:=c4
 clear c4
 try dsimp only
 refine cond_s h ?_ ?_<;>intro hc h
 ·
  obtain ⟨t8,ht8,h⟩:=bnd h
  refine wk_w16_awake H hS  ht8 ?_;rintro w hS
  refine ⟨_,rfl,?_⟩
  cases some_inj h
  exact hK _ (hS.pick (A:=[_,_,_,_]) [] rfl)
 refine ⟨_,hS.cel mp2 rfl,_,hS.cel mp2 rfl,_,_,_,hS.cel mp2 rfl,_,hS.cel mp1 rfl,_,_,_,hS.cel mp1 rfl,_,hS.cel mp1 rfl,?_⟩
 obtain ⟨⟨t9,t10⟩,ho9,h⟩:=bnd h
 refine wk_inertia_Below H hS (hq0_2.mono tl4) (gq0_2.mono tl4) (hq1_1.mono tl4) ho9 ?_;clear hS ho9;rintro w hS
 refine ⟨_,_,rfl,?_⟩
 refine ⟨_,hS.cel mp2 rfl,_,hS.cel mp2 rfl,_,_,_,hS.cel mp2 rfl,_,hS.cel mp0 rfl,_,_,_,hS.cel mp0 rfl,_,hS.cel mp0 rfl,?_⟩
 obtain ⟨⟨t11,t12⟩,ho11,h⟩:=bnd h
 refine wk_inertia_Below H hS (hq0_2.mono tl4) (gq0_2.mono tl4) (hq2_1.mono tl4) ho11 ?_;clear hS ho11;rintro w hS
 refine ⟨_,_,rfl,?_⟩
 refine ⟨_,hS.cel mp1 rfl,_,_,_,hS.cel mp1 rfl,_,hS.cel mp1 rfl,_,hS.cel mp0 rfl,_,_,_,hS.cel mp0 rfl,_,hS.cel mp0 rfl,?_⟩
 obtain ⟨⟨t13,t14⟩,ho13,h⟩:=bnd h
 refine wk_dyad_Cmp H hS (hq1_1.mono tl4) (hq2_1.mono tl4) ho13 ?_;clear hS ho13;rintro w hS
 refine ⟨_,_,rfl,?_⟩
 obtain ⟨o5,h5,c5⟩:=bnd h
 refine cutM_i (fun s w=>∃ (t15:Bool),t15=o5∧s=(t15,())∧Ho w0 w ((cl r2 [.bool q1_0,.slice q1_1 q1_1l q1_1c,.int .i64 q1_2] N.t_Dyad)::(cl r1 [.int .i64 q0_0,.int .i64 q0_1,.slice q0_2 q0_2l q0_2c] N.t_Dyads)::vd::L)) (fun J5 hJ5=>?_) ?_
 ·
  have h:=h5
  clear h5
  refine cond_s h ?_ ?_<;>intro hc h
  ·
   refine cond_s h ?_ ?_<;>intro hc h
   ·
    refine cond_s h ?_ ?_<;>intro hc h
    ·
     refine ⟨_,hS.cel mp2 rfl,?_⟩
     refine cond_s h ?_ ?_<;>intro hc h
     ·
      refine cond_s h ?_ ?_<;>intro hc h
      ·
       refine cond_s h ?_ ?_<;>intro hc h
       ·
        refine cond_s h ?_ ?_<;>intro hc h
        ·
         refine cond_s h ?_ ?_<;>intro hc h
         ·
          refine cond_s h ?_ ?_<;>intro hc h
          ·
           obtain rfl:=some_inj h
           exact hJ5 _ _ ⟨_,rfl,rfl,(hS.pick (A:=[_,_,_,_]) [1,1,1] rfl)⟩
          obtain rfl:=some_inj h
          exact hJ5 _ _ ⟨_,rfl,rfl,(hS.pick (A:=[_,_,_,_]) [1,1,1] rfl)⟩
         obtain rfl:=some_inj h
         exact hJ5 _ _ ⟨_,rfl,rfl,(hS.pick (A:=[_,_,_,_]) [1,1,1] rfl)⟩
        refine cond_s h ?_ ?_<;>intro hc h
        ·
         obtain rfl:=some_inj h
         exact hJ5 _ _ ⟨_,rfl,rfl,(hS.pick (A:=[_,_,_,_]) [1,1,1] rfl)⟩
        obtain rfl:=some_inj h
        exact hJ5 _ _ ⟨_,rfl,rfl,(hS.pick (A:=[_,_,_,_]) [1,1,1] rfl)⟩
       obtain rfl:=some_inj h
       exact hJ5 _ _ ⟨_,rfl,rfl,(hS.pick (A:=[_,_,_,_]) [1,1,1] rfl)⟩
      obtain rfl:=some_inj h
      exact hJ5 _ _ ⟨_,rfl,rfl,(hS.pick (A:=[_,_,_,_]) [1,1,1] rfl)⟩
     obtain rfl:=some_inj h
     exact hJ5 _ _ ⟨_,rfl,rfl,(hS.pick (A:=[_,_,_,_]) [1,1,1] rfl)⟩
    obtain rfl:=some_inj h
    exact hJ5 _ _ ⟨_,rfl,rfl,(hS.pick (A:=[_,_,_,_]) [1,1,1] rfl)⟩
   refine cond_s h ?_ ?_<;>intro hc h
   ·
    refine cond_s h ?_ ?_<;>intro hc h
    ·
     refine cond_s h ?_ ?_<;>intro hc h
     ·
      refine cond_s h ?_ ?_<;>intro hc h
      ·
       refine cond_s h ?_ ?_<;>intro hc h
       ·
        obtain rfl:=some_inj h
        exact hJ5 _ _ ⟨_,rfl,rfl,(hS.pick (A:=[_,_,_,_]) [1,1,1] rfl)⟩
       obtain rfl:=some_inj h
       exact hJ5 _ _ ⟨_,rfl,rfl,(hS.pick (A:=[_,_,_,_]) [1,1,1] rfl)⟩
      obtain rfl:=some_inj h
      exact hJ5 _ _ ⟨_,rfl,rfl,(hS.pick (A:=[_,_,_,_]) [1,1,1] rfl)⟩
     refine cond_s h ?_ ?_<;>intro hc h
     ·
      obtain rfl:=some_inj h
      exact hJ5 _ _ ⟨_,rfl,rfl,(hS.pick (A:=[_,_,_,_]) [1,1,1] rfl)⟩
     obtain rfl:=some_inj h
     exact hJ5 _ _ ⟨_,rfl,rfl,(hS.pick (A:=[_,_,_,_]) [1,1,1] rfl)⟩
    obtain rfl:=some_inj h
    exact hJ5 _ _ ⟨_,rfl,rfl,(hS.pick (A:=[_,_,_,_]) [1,1,1] rfl)⟩
   obtain rfl:=some_inj h
   exact hJ5 _ _ ⟨_,rfl,rfl,(hS.pick (A:=[_,_,_,_]) [1,1,1] rfl)⟩
  obtain rfl:=some_inj h
  exact hJ5 _ _ ⟨_,rfl,rfl,(hS.pick (A:=[_,_,_,_]) [1,1,1] rfl)⟩
 clear h5 hS
 rintro s w ⟨t15,rfl,rfl,hS⟩
 have h:=c5
 clear c5
 try dsimp only
 refine cond_s h ?_ ?_<;>intro hc h
 ·
  cases some_inj h
  exact hK _ (hS.pick (A:=[_,_,_]) [] rfl)
 obtain ⟨o13,h13,c13⟩:=bnd h
 refine cutM_i (fun s w=>∃ (r6:Nat) (a7:Option Addr) (m8:Nat) (c9:Nat) (t16:List Dy) (hh10:List Hd) (it12:It),t16=o13∧s=((some ⟨r6,0,none⟩),())∧AllD [it12] t16 hh10∧Ho w0 w ((cl r6 [.int .i64 q0_0,.int .i64 q0_0,.slice a7 m8 c9] N.t_Dyads)::(sl a7 (m8*3) (c9*3) (dyC t16 hh10) N.t_Dyad)::(cl r2 [.bool q1_0,.slice q1_1 q1_1l q1_1c,.int .i64 q1_2] N.t_Dyad)::(cl r1 [.int .i64 q0_0,.int .i64 q0_1,.slice q0_2 q0_2l q0_2c] N.t_Dyads)::it12::L)) (fun J13 hJ13=>?_) ?_
 ·
  have h:=h13
  clear h13
  refine ⟨_,hS.cel mp1 rfl,_,hS.cel mp1 rfl,_,_,_,hS.cel mp1 rfl,?_⟩
  refine ⟨?_,?_⟩
  ·
   refine drM_s hS ?_;intro w hS
   obtain ⟨t17,ht17,h⟩:=bnd h
   refine wk_k_CopyDyads H hS (hq0_2.mono tl3) (gq0_2.mono tl3) ht17 ?_;rintro a14 m14 c14 hh14 it14 w ed14 hS
   refine ⟨_,_,_,rfl,?_⟩
   replace ed14:=ed14 [it14] mp0
   replace hS:=ro4 hS
   replace hS:=ro2 hS
   replace hS:=hS.both
   replace ed14:=AllD.both (L:=[]) (y:=vd) (ed14.mono (incl_one mp0))
   refine ⟨(hS.cel mp3 rfl),?_⟩
   refine ⟨(hS.cel mp3 rfl),?_⟩
   refine drM_s hS ?_;intro w hS
   refine newM_s hS ?_;intro r15 w hS
   refine ⟨(hS.cel mp4 rfl),?_⟩
   refine ⟨(hS.cel mp4 rfl),?_⟩
   refine drM_s hS ?_;intro w hS
   refine stc_s hS rfl rfl ?_;intro w hS
   refine stc_s hS rfl rfl ?_;intro w hS
   refine stc_s hS rfl rfl ?_;intro w hS
   refine drM_s hS ?_;intro w hS
   obtain rfl:=some_inj h
   exact hJ13 _ _ ⟨_,_,_,_,_,_,_,rfl,rfl,ed14,(hS.pick (A:=[_,_,_,_,_]) [0,1,1,1,0] rfl)⟩
  refine drM_s hS ?_;intro w hS
  refine newM_s hS ?_;intro r16 w hS
  refine ⟨(hS.cel mp2 rfl),?_⟩
  refine ⟨(hS.cel mp2 rfl),?_⟩
  refine ⟨(hS.cel mp2 rfl),?_⟩
  refine drM_s hS ?_;intro w hS
  obtain ⟨t17,ht17,h⟩:=bnd h
  refine wk_k_CopyDyads H hS (hq0_2.mono tl4) (gq0_2.mono tl4) ht17 ?_;rintro a17 m17 c17 hh17 it17 w ed17 hS
  refine ⟨_,_,_,rfl,?_⟩
  replace ed17:=ed17 [it17] mp0
  replace hS:=ro5 hS
  replace hS:=ro2 hS
  replace hS:=hS.both
  replace ed17:=AllD.both (L:=[]) (y:=vd) (ed17.mono (incl_one mp0))
  refine ⟨(hS.cel mp4 rfl),?_⟩
  refine ⟨(hS.cel mp4 rfl),?_⟩
  refine drM_s hS ?_;intro w hS
  replace hS:=ro2 hS
  refine stc_s hS rfl rfl ?_;intro w hS
  refine stc_s hS rfl rfl ?_;intro w hS
  refine stc_s hS rfl rfl ?_;intro w hS
  refine drM_s hS ?_;intro w hS
  obtain rfl:=some_inj h
  exact hJ13 _ _ ⟨_,_,_,_,_,_,_,rfl,rfl,ed17,(hS.pick (A:=[_,_,_,_,_]) [0,1,1,1,0] rfl)⟩
 clear h13 hS
 rintro s w ⟨r6,a7,m8,c9,t16,hh10,it12,rfl,rfl,ed11,hS⟩
 have h:=c13
 clear c13
 try dsimp only
 obtain ⟨o21,h21,c21⟩:=bnd h
 refine cutM_i (fun s w=>∃ (t18:List Dy) (hh18:List Hd) (it20:It),.inl t18=o21∧s=(())∧AllD [it20] t18 hh18∧Ho w0 w ((cl r6 [.int .i64 q0_0,.int .i64 q0_0,.slice a7 m8 c9] N.t_Dyads)::(sl a7 (m8*3) (c9*3) (dyC t18 hh18) N.t_Dyad)::it20::L)) (fun J21 hJ21=>?_) ?_
 ·
  have h:=h21
  clear h21
  refine iter_sim (fun s w t=>∃ (t19:Int) (t20:List Dy) (hh22:List Hd) (it24:It),(t19,t20)=t∧s=(t19,())∧AllD [it24] t20 hh22∧Ho w0 w ((cl r6 [.int .i64 q0_0,.int .i64 q0_0,.slice a7 m8 c9] N.t_Dyads)::(sl a7 (m8*3) (c9*3) (dyC t20 hh22) N.t_Dyad)::(cl r2 [.bool q1_0,.slice q1_1 q1_1l q1_1c,.int .i64 q1_2] N.t_Dyad)::(cl r1 [.int .i64 q0_0,.int .i64 q0_1,.slice q0_2 q0_2l q0_2c] N.t_Dyads)::it24::L)) ?_ h ⟨_,_,_,_,rfl,rfl,ed11,hS⟩
  clear h hS
  rintro s w t X q ⟨t19,t20,hh22,it24,rfl,rfl,ed23,hS⟩ h hX hO
  unfold T_w16_InertiaRises_b2 at h
  try dsimp only
  refine ⟨_,hS.cel mp3 rfl,?_⟩
  refine cond_s h ?_ ?_<;>intro hc h
  ·
   refine ⟨_,_,_,hS.cel mp3 rfl,_,hS.cel mp3 rfl,?_⟩
   obtain ⟨t21,ht21,h⟩:=bnd h
   obtain ⟨gq25,q25x,q25k,q25l,q25r,q25e⟩:=AllD.atE gq0_2 ht21
   refine idxD_s gq0_2.len ((hq0_2.mono tl5).now (fun _ h=>h) hS) q25l q25r ?_;intro b26 hb26
   refine ⟨_,(rdD0 ((hq0_2.mono tl5).now (fun _ h=>h) hS) hb26 q25k q25x),?_⟩
   refine ⟨_,_,_,(rdD1 ((hq0_2.mono tl5).now (fun _ h=>h) hS) hb26 q25k q25x),?_⟩
   refine ⟨_,(rdD2 ((hq0_2.mono tl5).now (fun _ h=>h) hS) hb26 q25k q25x),?_⟩
   refine ⟨_,hS.cel mp2 rfl,_,_,_,hS.cel mp2 rfl,_,hS.cel mp2 rfl,?_⟩
   refine ⟨?_,?_⟩
   ·
    refine drM_s hS ?_;intro w hS
    obtain ⟨⟨t22,t23,t24,t25⟩,ho22,h⟩:=bnd h
    refine wk_dyad_Sub H hS (q25e.mono tl5) (hq1_1.mono tl5) ho22 ?_;clear hS ho22;rintro a27 m27 c27 w hS
    refine ⟨_,_,_,_,_,_,rfl,?_⟩
    refine drM_s hS ?_;intro w hS
    refine newM_s hS ?_;intro r28 w hS
    refine drM_s hS ?_;intro w hS
    refine stc_s hS rfl rfl ?_;intro w hS
    refine stc_s hS rfl rfl ?_;intro w hS
    refine stc_s hS rfl rfl ?_;intro w hS
    refine drM_s hS ?_;intro w hS
    refine cond_s h ?_ ?_<;>intro hc h
    ·
     refine cond_s h ?_ ?_<;>intro hc h
     ·
      refine cond_s h ?_ ?_<;>intro hc h
      ·
       obtain ⟨t26,ht26,h⟩:=bnd h
       refine wk_w16_awake H hS  ht26 ?_;rintro w hS
       refine ⟨_,rfl,?_⟩
       obtain rfl:=some_inj h
       have h:=congrArg some (hO _ rfl)
       obtain rfl:=some_inj h
       have h:=c21
       cases some_inj h
       exact hK _ (hS.pick (A:=[_,_,_,_,_,_,_]) [] rfl)
      obtain rfl:=some_inj h
      have h:=congrArg some (hO _ rfl)
      obtain rfl:=some_inj h
      have h:=c21
      cases some_inj h
      exact hK _ (hS.pick (A:=[_,_,_,_,_,_,_]) [] rfl)
     obtain ⟨t27,ht27,h⟩:=bnd h
     refine wk_w16_awake H hS  ht27 ?_;rintro w hS
     refine ⟨_,rfl,?_⟩
     obtain rfl:=some_inj h
     have h:=congrArg some (hO _ rfl)
     obtain rfl:=some_inj h
     have h:=c21
     cases some_inj h
     exact hK _ (hS.pick (A:=[_,_,_,_,_,_,_]) [] rfl)
    refine optM_s ?_
    refine ⟨_,_,_,hS.cel mp2 rfl,_,hS.cel mp5 rfl,_,hS.cel mp0 rfl,_,_,_,hS.cel mp0 rfl,_,hS.cel mp0 rfl,?_⟩
    obtain ⟨t28,ht28,h⟩:=bnd h
    obtain ⟨gq29,q29x,q29k,q29l,q29r,q29e⟩:=AllD.atE ed23 ht28
    refine idxD_s ed23.len ((Ent.sl mp3).now (fun _ h=>h) hS) q29l q29r ?_;intro b30 hb30
    replace hS:=ro1 hS
    have hz31:Ent [sl a27 m27 c27 (List.map (Value.int .u64) t23) N.t_uint64] (rdA (List.map (Value.int .u64) t23) a27 m27 c27):=(Ent.sl (L:=[sl a27 m27 c27 (List.map (Value.int .u64) t23) N.t_uint64]) mp0)
    replace hS:=ro6 hS
    replace hS:=ro1 hS
    replace hS:=hS.both
    replace hz31:=Ent.both (L:=[]) (y:=it24) (hz31.mono (incl_one mp0))
    replace ed23:=AllD.both (L:=[]) (x:=(sl a27 m27 c27 (List.map (Value.int .u64) t23) N.t_uint64)) (ed23.mono (incl_one mp1))
    replace q29e:=Ent.both (L:=[]) (x:=(sl a27 m27 c27 (List.map (Value.int .u64) t23) N.t_uint64)) (q29e.mono (incl_one mp1))
    replace hS:=ro3 hS
    obtain ⟨t29,ht29,h⟩:=bnd h
    obtain rfl:=some_inj ht29
    have ed32:=ed23.set (x:=(t22,t23,t24)) (g:=(a27,m27,c27)) hz31 ((IntKind.i64.wrap ((IntKind.i64.wrap (t19*q0_0))+t19))).toNat
    refine stoD_s (x:=(t22,t23,t24)) (g:=(a27,m27,c27)) hS ed23.len hb30 q29r ?_;intro w hS
    obtain rfl:=some_inj h
    exact hX _ rfl _ _ ⟨_,_,_,_,rfl,rfl,ed32,(hS.pick (A:=[_,_,_,_,_,_]) [3,0,2,2,0] rfl)⟩
   refine drM_s hS ?_;intro w hS
   refine newM_s hS ?_;intro r33 w hS
   refine ⟨(hS.cel mp3 rfl),?_⟩
   refine ⟨(hS.cel mp3 rfl),?_⟩
   refine ⟨(hS.cel mp3 rfl),?_⟩
   refine ⟨rdD0 ((hq0_2.mono tl6).now (fun _ h=>h) hS) hb26 q25k q25x,?_⟩
   refine ⟨rdD1 ((hq0_2.mono tl6).now (fun _ h=>h) hS) hb26 q25k q25x,?_⟩
   refine ⟨rdD2 ((hq0_2.mono tl6).now (fun _ h=>h) hS) hb26 q25k q25x,?_⟩
   refine ⟨(hS.cel mp4 rfl),?_⟩
   refine ⟨(hS.cel mp4 rfl),?_⟩
   refine drM_s hS ?_;intro w hS
   obtain ⟨⟨t22,t23,t24,t25⟩,ho22,h⟩:=bnd h
   refine wk_dyad_Sub H hS (q25e.mono tl6) (hq1_1.mono tl6) ho22 ?_;clear hS ho22;rintro a34 m34 c34 w hS
   refine ⟨_,_,_,_,_,_,rfl,?_⟩
   refine drM_s hS ?_;intro w hS
   replace hS:=ro1 hS
   refine stc_s hS rfl rfl ?_;intro w hS
   refine stc_s hS rfl rfl ?_;intro w hS
   refine stc_s hS rfl rfl ?_;intro w hS
   refine drM_s hS ?_;intro w hS
   refine cond_s h ?_ ?_<;>intro hc h
   ·
    refine cond_s h ?_ ?_<;>intro hc h
    ·
     refine cond_s h ?_ ?_<;>intro hc h
     ·
      obtain ⟨t26,ht26,h⟩:=bnd h
      refine wk_w16_awake H hS  ht26 ?_;rintro w hS
      refine ⟨_,rfl,?_⟩
      obtain rfl:=some_inj h
      have h:=congrArg some (hO _ rfl)
      obtain rfl:=some_inj h
      have h:=c21
      cases some_inj h
      exact hK _ (hS.pick (A:=[_,_,_,_,_,_,_]) [] rfl)
     obtain rfl:=some_inj h
     have h:=congrArg some (hO _ rfl)
     obtain rfl:=some_inj h
     have h:=c21
     cases some_inj h
     exact hK _ (hS.pick (A:=[_,_,_,_,_,_,_]) [] rfl)
    obtain ⟨t27,ht27,h⟩:=bnd h
    refine wk_w16_awake H hS  ht27 ?_;rintro w hS
    refine ⟨_,rfl,?_⟩
    obtain rfl:=some_inj h
    have h:=congrArg some (hO _ rfl)
    obtain rfl:=some_inj h
    have h:=c21
    cases some_inj h
    exact hK _ (hS.pick (A:=[_,_,_,_,_,_,_]) [] rfl)
   refine optM_s ?_
   refine ⟨_,_,_,hS.cel mp2 rfl,_,hS.cel mp5 rfl,_,hS.cel mp0 rfl,_,_,_,hS.cel mp0 rfl,_,hS.cel mp0 rfl,?_⟩
   obtain ⟨t28,ht28,h⟩:=bnd h
   obtain ⟨gq35,q35x,q35k,q35l,q35r,q35e⟩:=AllD.atE ed23 ht28
   refine idxD_s ed23.len ((Ent.sl mp3).now (fun _ h=>h) hS) q35l q35r ?_;intro b36 hb36
   replace hS:=ro1 hS
   have hz37:Ent [sl a34 m34 c34 (List.map (Value.int .u64) t23) N.t_uint64] (rdA (List.map (Value.int .u64) t23) a34 m34 c34):=(Ent.sl (L:=[sl a34 m34 c34 (List.map (Value.int .u64) t23) N.t_uint64]) mp0)
   replace hS:=ro6 hS
   replace hS:=ro1 hS
   replace hS:=hS.both
   replace hz37:=Ent.both (L:=[]) (y:=it24) (hz37.mono (incl_one mp0))
   replace ed23:=AllD.both (L:=[]) (x:=(sl a34 m34 c34 (List.map (Value.int .u64) t23) N.t_uint64)) (ed23.mono (incl_one mp1))
   replace q35e:=Ent.both (L:=[]) (x:=(sl a34 m34 c34 (List.map (Value.int .u64) t23) N.t_uint64)) (q35e.mono (incl_one mp1))
   replace hS:=ro3 hS
   obtain ⟨t29,ht29,h⟩:=bnd h
   obtain rfl:=some_inj ht29
   have ed38:=ed23.set (x:=(t22,t23,t24)) (g:=(a34,m34,c34)) hz37 ((IntKind.i64.wrap ((IntKind.i64.wrap (t19*q0_0))+t19))).toNat
   refine stoD_s (x:=(t22,t23,t24)) (g:=(a34,m34,c34)) hS ed23.len hb36 q35r ?_;intro w hS
   obtain rfl:=some_inj h
   exact hX _ rfl _ _ ⟨_,_,_,_,rfl,rfl,ed38,(hS.pick (A:=[_,_,_,_,_,_]) [3,0,2,2,0] rfl)⟩
  obtain rfl:=some_inj h
  have h:=congrArg some (hO _ rfl)
  obtain rfl:=some_inj h
  exact hJ21 _ _ ⟨_,_,_,rfl,rfl,ed23,(hS.pick (A:=[_,_,_,_,_]) [0,0,2] rfl)⟩
 clear h21 hS
 rintro s w ⟨t18,hh18,it20,rfl,rfl,ed19,hS⟩
 have h:=c21
 clear c21
 try dsimp only
 refine optM_s ?_
 refine ⟨_,hS.cel mp0 rfl,_,hS.cel mp0 rfl,_,_,_,hS.cel mp0 rfl,?_⟩
 obtain ⟨⟨t30,t31,t32,t33⟩,ho30,h⟩:=bnd h
 refine wk_inertia_Signs H hS (Ent.sl mp1) (ed19.mono (incl_one mp2)) ho30 ?_;clear hS ho30;rintro w hS
 refine ⟨_,_,_,_,rfl,?_⟩
 refine newM_s hS ?_;intro r39 w hS
 refine stc_s hS rfl rfl ?_;intro w hS
 refine stc_s hS rfl rfl ?_;intro w hS
 refine stc_s hS rfl rfl ?_;intro w hS
 refine cond_s h ?_ ?_<;>intro hc h
 ·
  refine ⟨_,hS.cel mp0 rfl,?_⟩
  refine cond_s h ?_ ?_<;>intro hc h
  ·
   obtain ⟨t34,ht34,h⟩:=bnd h
   refine wk_w16_awake H hS  ht34 ?_;rintro w hS
   refine ⟨_,rfl,?_⟩
   cases some_inj h
   exact hK _ (hS.pick (A:=[_,_,_,_]) [] rfl)
  cases some_inj h
  exact hK _ (hS.pick (A:=[_,_,_,_]) [] rfl)
 cases some_inj h
 exact hK _ (hS.pick (A:=[_,_,_,_]) [] rfl)
end Go.Eng
