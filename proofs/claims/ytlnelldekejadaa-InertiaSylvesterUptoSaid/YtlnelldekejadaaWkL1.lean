/-
 Each function comes to what its function of plain Lean says, printed by a program of the session. No condition.
-/
import Derived.Test.YtlnelldekejadaaTpL
import Derived.Test.YtlnelldekejadaaWk
set_option linter.all false
set_option maxRecDepth 100000
set_option maxHeartbeats 4000000
namespace Go.Eng
open Go
variable {N:Nums} {P:Program} (H:AllOk N P) {w0 w:World} {L:List It} {K:Value→World→Prop}
include H
theorem wk_inertia_Signs {q0_0 q0_1 q0_2 q0_2l q0_2c} {H0_2:List Hd} {l0_2:List Dy} {u0 u1 u2 u3} (hS:Ho w0 w L) (hq0_2:Ent L (rdA (dyC l0_2 H0_2) q0_2 (q0_2l*3) (q0_2c*3))) (gq0_2:AllD L l0_2 H0_2) (hx:T_inertia_Signs q0_0 q0_1 l0_2=some (u0,u1,u2,u3)) (hK:∀ w1,Ho w0 w1 L→K (.tuple #[.agg #[.int .i64 u0,.int .i64 u1,.int .i64 u2],.int .i64 u3]) w1):CallsX P N.f_inertia_Signs #[.agg #[.int .i64 q0_0,.int .i64 q0_1,.slice q0_2 q0_2l q0_2c]] w K:=by
 unfold T_inertia_Signs at hx
 exact wkH_Signs H hS hq0_2 gq0_2 hx hK
theorem wk_inertia_Below {q0_0 q0_1 q0_2 q0_2l q0_2c} {H0_2:List Hd} {l0_2:List Dy} {q1_0 q1_1 q1_1l q1_1c l1_1 q1_2 u0 u1} (hS:Ho w0 w L) (hq0_2:Ent L (rdA (dyC l0_2 H0_2) q0_2 (q0_2l*3) (q0_2c*3))) (gq0_2:AllD L l0_2 H0_2) (hq1_1:EU L l1_1 q1_1 q1_1l q1_1c) (hx:T_inertia_Below q0_0 q0_1 l0_2 q1_0 l1_1 q1_2=some (u0,u1)) (hK:∀ w1,Ho w0 w1 L→K (.tuple #[.int .i64 u0,.int .i64 u1]) w1):CallsX P N.f_inertia_Below #[.agg #[.int .i64 q0_0,.int .i64 q0_1,.slice q0_2 q0_2l q0_2c],.agg #[.bool q1_0,.slice q1_1 q1_1l q1_1c,.int .i64 q1_2]] w K:=by
 unfold T_inertia_Below at hx
 exact wkH_Below H hS hq0_2 gq0_2 hq1_1 hx hK
theorem wk_inertia_Poly {q0_0 q0_1 q0_2 q0_2l q0_2c} {H0_2:List Hd} {l0_2:List Dy} {u0:List Dy} {u1} (hS:Ho w0 w L) (hq0_2:Ent L (rdA (dyC l0_2 H0_2) q0_2 (q0_2l*3) (q0_2c*3))) (gq0_2:AllD L l0_2 H0_2) (hx:T_inertia_Poly q0_0 q0_1 l0_2=some (u0,u1)) (hK:∀ (a0:Option Addr) (n0 c0:Nat) (hh0:List Hd) (it0:It) (w1:World),(∀ L1,it0∈L1→AllD L1 u0 hh0)→Ho w0 w1 ((sl a0 (n0*3) (c0*3) (dyC u0 hh0) N.t_Dyad)::it0::L)→K (.tuple #[.slice a0 n0 c0,.int .i64 u1]) w1):CallsX P N.f_inertia_Poly #[.agg #[.int .i64 q0_0,.int .i64 q0_1,.slice q0_2 q0_2l q0_2c]] w K:=by
 unfold T_inertia_Poly at hx
 exact wkH_Poly H hS hq0_2 gq0_2 hx hK
theorem wk_w16_awake  {u0} (hS:Ho w0 w L)  (h:T_w16_awake  = some u0) (hK:∀ w1,Ho w0 w1 L→K (.bool u0) w1):CallsX P N.f_w16_awake #[] w K:=by
 refine H.w16_awake  w _ ?_
 unfold S_w16_awake
 unfold T_w16_awake at h
 try dsimp only
 replace hS:=hS.voidItem
 obtain ⟨t1,ht1,h⟩:=bnd h
 obtain rfl:([1,2,2,1]:List Int)=t1:=some_inj ht1
 refine lit_s (ks:=[1,2,2,1]) (enc:=(Value.int .i64)) (m:=4) hS rfl rfl ?_;intro r1 w hS
 obtain ⟨⟨t2,t3,t4⟩,ho2,h⟩:=bnd h
 refine wk_w16_of H hS (Ent.sl mp0) ho2 ?_;clear hS ho2;rintro a2 m2 c2 hh2 it2 w ed2 hS
 refine ⟨_,_,_,_,_,rfl,?_⟩
 replace ed2:=ed2 [it2] mp0
 replace hS:=ro3 hS
 replace hS:=ro2 hS
 replace hS:=hS.both
 replace ed2:=AllD.both (L:=[]) (y:=vd) (ed2.mono (incl_one mp0))
 obtain ⟨⟨t5,t6,t7,t8⟩,ho5,h⟩:=bnd h
 refine wk_inertia_Signs H hS (Ent.sl mp1) (ed2.mono (incl_one mp0)) ho5 ?_;clear hS ho5;rintro w hS
 refine ⟨_,_,_,_,rfl,?_⟩
 refine newM_s hS ?_;intro r3 w hS
 refine stc_s hS rfl rfl ?_;intro w hS
 refine stc_s hS rfl rfl ?_;intro w hS
 refine stc_s hS rfl rfl ?_;intro w hS
 obtain ⟨t9,ht9,h⟩:=bnd h
 obtain rfl:([1,2,2,1]:List Int)=t9:=some_inj ht9
 refine lit_s (ks:=[1,2,2,1]) (enc:=(Value.int .i64)) (m:=4) hS rfl rfl ?_;intro r4 w hS
 obtain ⟨⟨t10,t11,t12⟩,ho10,h⟩:=bnd h
 refine wk_w16_of H hS (Ent.sl mp0) ho10 ?_;clear hS ho10;rintro a5 m5 c5 hh5 it5 w ed5 hS
 refine ⟨_,_,_,_,_,rfl,?_⟩
 replace ed5:=ed5 [it5] mp0
 replace hS:=ro4 hS
 replace hS:=ro2 hS
 replace hS:=hS.both
 replace ed5:=AllD.both (L:=[]) (y:=(both it2 vd)) (ed5.mono (incl_one mp0))
 replace ed2:=AllD.both (L:=[]) (x:=it5) (ed2.mono (incl_one mp1))
 obtain ⟨⟨t13,t14⟩,ho13,h⟩:=bnd h
 refine wk_inertia_Poly H hS (Ent.sl mp1) (ed5.mono (incl_one mp0)) ho13 ?_;clear hS ho13;rintro a6 m6 c6 hh6 it6 w ed6 hS
 refine ⟨_,_,_,_,rfl,?_⟩
 replace ed6:=ed6 [it6] mp0
 replace hS:=ro2 hS
 replace hS:=ro2 hS
 replace hS:=hS.both
 replace ed6:=AllD.both (L:=[]) (y:=(both it5 (both it2 vd))) (ed6.mono (incl_one mp0))
 replace ed5:=AllD.both (L:=[]) (x:=it6) (ed5.mono (incl_one mp1))
 replace ed2:=AllD.both (L:=[]) (x:=it6) (ed2.mono (incl_one mp1))
 obtain ⟨t15,ht15,h⟩:=bnd h
 obtain rfl:([1,2,2,1]:List Int)=t15:=some_inj ht15
 refine lit_s (ks:=[1,2,2,1]) (enc:=(Value.int .i64)) (m:=4) hS rfl rfl ?_;intro r7 w hS
 obtain ⟨⟨t16,t17,t18⟩,ho16,h⟩:=bnd h
 refine wk_w16_of H hS (Ent.sl mp0) ho16 ?_;clear hS ho16;rintro a8 m8 c8 hh8 it8 w ed8 hS
 refine ⟨_,_,_,_,_,rfl,?_⟩
 replace ed8:=ed8 [it8] mp0
 replace hS:=ro3 hS
 replace hS:=ro2 hS
 replace hS:=hS.both
 replace ed8:=AllD.both (L:=[]) (y:=(both it6 (both it5 (both it2 vd)))) (ed8.mono (incl_one mp0))
 replace ed6:=AllD.both (L:=[]) (x:=it8) (ed6.mono (incl_one mp1))
 replace ed5:=AllD.both (L:=[]) (x:=it8) (ed5.mono (incl_one mp1))
 replace ed2:=AllD.both (L:=[]) (x:=it8) (ed2.mono (incl_one mp1))
 obtain ⟨⟨t19,t20,t21⟩,ho19,h⟩:=bnd h
 refine wk_r02_Int H hS  ho19 ?_;clear hS ho19;rintro a9 m9 c9 w hS
 refine ⟨_,_,_,_,_,rfl,?_⟩
 obtain ⟨⟨t22,t23⟩,ho22,h⟩:=bnd h
 refine wk_inertia_Below H hS (Ent.sl mp2) (ed8.mono (incl_one mp1)) (Ent.sl mp0) ho22 ?_;clear hS ho22;rintro w hS
 refine ⟨_,_,rfl,?_⟩
 refine cond_s h ?_ ?_<;>intro hc h
 ·
  refine cond_s h ?_ ?_<;>intro hc h
  ·
   refine cond_s h ?_ ?_<;>intro hc h
   ·
    refine cond_s h ?_ ?_<;>intro hc h
    ·
     refine ⟨_,hS.cel mp7 rfl,_,hS.cel mp7 rfl,_,hS.cel mp7 rfl,?_⟩
     refine cond_s h ?_ ?_<;>intro hc h
     ·
      obtain ⟨t24,ht24,h⟩:=bnd h
      obtain rfl:([(-3),(-2),1]:List Int)=t24:=some_inj ht24
      refine lit_s (ks:=[(-3),(-2),1]) (enc:=(Value.int .i64)) (m:=3) hS rfl rfl ?_;intro r10 w hS
      obtain ⟨⟨t25,t26,t27⟩,ho25,h⟩:=bnd h
      refine wk_w16_of H hS (Ent.sl mp0) ho25 ?_;clear hS ho25;rintro a11 m11 c11 hh11 it11 w ed11 hS
      refine ⟨_,_,_,_,_,rfl,?_⟩
      replace ed11:=ed11 [it11] mp0
      replace hS:=ro4 hS
      replace hS:=ro2 hS
      replace hS:=hS.both
      replace ed11:=AllD.both (L:=[]) (y:=(both it8 (both it6 (both it5 (both it2 vd))))) (ed11.mono (incl_one mp0))
      replace ed8:=AllD.both (L:=[]) (x:=it11) (ed8.mono (incl_one mp1))
      replace ed6:=AllD.both (L:=[]) (x:=it11) (ed6.mono (incl_one mp1))
      replace ed5:=AllD.both (L:=[]) (x:=it11) (ed5.mono (incl_one mp1))
      replace ed2:=AllD.both (L:=[]) (x:=it11) (ed2.mono (incl_one mp1))
      obtain ⟨t28,ht28,h⟩:=bnd h
      refine wk_k_SameDyads H hS (Ent.sl mp6) (ed6.mono (incl_one mp0)) (Ent.sl mp1) (ed11.mono (incl_one mp0)) ht28 ?_;rintro w hS
      refine ⟨_,rfl,?_⟩
      cases some_inj h
      exact hK _ (hS.pick (A:=[_,_,_,_,_,_,_,_,_,_,_,_]) [] rfl)
     cases some_inj h
     exact hK _ (hS.pick (A:=[_,_,_,_,_,_,_,_,_,_]) [] rfl)
    cases some_inj h
    exact hK _ (hS.pick (A:=[_,_,_,_,_,_,_,_,_,_]) [] rfl)
   cases some_inj h
   exact hK _ (hS.pick (A:=[_,_,_,_,_,_,_,_,_,_]) [] rfl)
  cases some_inj h
  exact hK _ (hS.pick (A:=[_,_,_,_,_,_,_,_,_,_]) [] rfl)
 cases some_inj h
 exact hK _ (hS.pick (A:=[_,_,_,_,_,_,_,_,_,_]) [] rfl)
theorem wk_w16_InertiaSylvester {q0 q1 q1l q1c l1 q2 q2l q2c l2 q3 u0} (hS:Ho w0 w L) (hq1:Ent L (rdA (List.map (Value.int .i64) l1) q1 q1l q1c)) (hq2:Ent L (rdA (List.map (Value.int .i64) l2) q2 q2l q2c)) (h:T_w16_InertiaSylvester q0 l1 l2 q3=some u0) (hK:∀ w1,Ho w0 w1 L→K (.bool u0) w1):CallsX P N.f_w16_InertiaSylvester #[.int .i64 q0,.slice q1 q1l q1c,.slice q2 q2l q2c,.int .i64 q3] w K:=by
 refine H.w16_InertiaSylvester q0 q1 q1l q1c q2 q2l q2c q3 w _ ?_
 unfold S_w16_InertiaSylvester
 unfold T_w16_InertiaSylvester at h
 try dsimp only
 replace hS:=hS.voidItem
 obtain ⟨t1,ht1,h⟩:=bnd h
 refine wk_k_Pick H hS  ht1 ?_;rintro w hS
 refine ⟨_,rfl,?_⟩
 obtain ⟨t2,ht2,h⟩:=bnd h
 refine wk_k_Pick H hS  ht2 ?_;rintro w hS
 refine ⟨_,rfl,?_⟩
 refine newM_s hS ?_;intro r1 w hS
 refine newM_s hS ?_;intro r2 w hS
 refine stc_s hS rfl rfl ?_;intro w hS
 refine stc_s hS rfl rfl ?_;intro w hS
 refine stc_s hS rfl rfl ?_;intro w hS
 refine newM_s hS ?_;intro r3 w hS
 refine stc_s hS rfl rfl ?_;intro w hS
 refine stc_s hS rfl rfl ?_;intro w hS
 refine stc_s hS rfl rfl ?_;intro w hS
 obtain ⟨t3,ht3,h⟩:=bnd h
 obtain ⟨rfl,kt3⟩:=mkE ht3
 have ed5:=AllD.repl (L:=[vd]) (b:=false) (e:=0) ((IntKind.i64.wrap (t1*t1))).toNat
 refine mkD_s hS kt3 rfl ?_;clear hS kt3;intro r4 w hS
 refine newM_s hS ?_;intro r6 w hS
 refine stc_s hS rfl rfl ?_;intro w hS
 refine stc_s hS rfl rfl ?_;intro w hS
 refine stc_s hS rfl rfl ?_;intro w hS
 obtain ⟨o20,h20,c20⟩:=bnd h
 refine cutM_i (fun s w=>∃ (t4:Int) (t5:Int) (t6:Int) (t7:List Dy) (hh7:List Hd) (a9:Option Addr) (m10:Nat) (c11:Nat) (t8:List Dy) (hh12:List Hd) (a14:Option Addr) (m15:Nat) (c16:Nat) (t9:List Dy) (hh17:List Hd) (it19:It),.inl (t4,t5,t6,t7,t8,t9)=o20∧s=(())∧AllD [it19] t7 hh7∧AllD [it19] t8 hh12∧AllD [it19] t9 hh17∧Ho w0 w ((cl r6 [.int .i64 t1,.int .i64 t1,.slice (some ⟨r4,0,none⟩) (((IntKind.i64.wrap (t1*t1))).toNat) (((IntKind.i64.wrap (t1*t1))).toNat)] N.t_Dyads)::(sl (some ⟨r4,0,none⟩) ((((IntKind.i64.wrap (t1*t1))).toNat)*3) ((((IntKind.i64.wrap (t1*t1))).toNat)*3) (dyC t7 hh7) N.t_Dyad)::(cl r3 [.int .i64 t1,.int .i64 t1,.slice a9 m10 c11] N.t_Dyads)::(cl r2 [.int .i64 t1,.int .i64 t1,.slice a14 m15 c16] N.t_Dyads)::(cl r1 [.int .i64 t4,.int .i64 t5,.int .i64 t6] N.t_Signs)::(sl a9 (m10*3) (c11*3) (dyC t8 hh12) N.t_Dyad)::(sl a14 (m15*3) (c16*3) (dyC t9 hh17) N.t_Dyad)::it19::L)) (fun J20 hJ20=>?_) ?_
 ·
  have h:=h20
  clear h20
  replace hS:=hS.noneD (t:=N.t_Dyad)
  replace hS:=hS.noneD (t:=N.t_Dyad)
  refine iter_sim (fun s w t=>∃ (t10:Int) (t11:Int) (t12:Int) (t13:Int) (t14:List Dy) (hh21:List Hd) (it23:It) (a24:Option Addr) (m25:Nat) (c26:Nat) (t15:List Dy) (hh27:List Hd) (a29:Option Addr) (m30:Nat) (c31:Nat) (t16:List Dy) (hh32:List Hd),(t10,t11,t12,t13,t14,t15,t16)=t∧s=(t10,())∧AllD [it23] t14 hh21∧AllD [it23] t15 hh27∧AllD [it23] t16 hh32∧Ho w0 w ((cl r6 [.int .i64 t1,.int .i64 t1,.slice (some ⟨r4,0,none⟩) (((IntKind.i64.wrap (t1*t1))).toNat) (((IntKind.i64.wrap (t1*t1))).toNat)] N.t_Dyads)::(sl (some ⟨r4,0,none⟩) ((((IntKind.i64.wrap (t1*t1))).toNat)*3) ((((IntKind.i64.wrap (t1*t1))).toNat)*3) (dyC t14 hh21) N.t_Dyad)::(cl r3 [.int .i64 t1,.int .i64 t1,.slice a24 m25 c26] N.t_Dyads)::(cl r2 [.int .i64 t1,.int .i64 t1,.slice a29 m30 c31] N.t_Dyads)::(cl r1 [.int .i64 t11,.int .i64 t12,.int .i64 t13] N.t_Signs)::(sl a24 (m25*3) (c26*3) (dyC t15 hh27) N.t_Dyad)::(sl a29 (m30*3) (c31*3) (dyC t16 hh32) N.t_Dyad)::it23::L)) ?_ h ⟨_,_,_,_,_,_,_,_,_,_,_,_,_,_,_,_,_,rfl,rfl,ed5,(AllD.nil (L:=[vd])),(AllD.nil (L:=[vd])),(hS.pick (A:=[_,_,_,_,_,_,_,_]) [2,2,2,2,2,1,0,0] rfl)⟩
  clear h hS
  rintro s w t X q ⟨t10,t11,t12,t13,t14,hh21,it23,a24,m25,c26,t15,hh27,a29,m30,c31,t16,hh32,rfl,rfl,ed22,ed28,ed33,hS⟩ h hX hO
  unfold T_w16_InertiaSylvester_b27 at h
  try dsimp only
  refine cond_s h ?_ ?_<;>intro hc h
  ·
   obtain ⟨t17,ht17,h⟩:=bnd h
   refine wk_w16_part H hS (hq2.mono tl8) ht17 ?_;rintro w hS
   refine ⟨_,rfl,?_⟩
   obtain ⟨o34,h34,c34⟩:=bnd h
   refine cutM_i (fun s w=>∃ (t18:Int) (t19:Int) (t20:Int),(t18,t19,t20)=o34∧s=(())∧Ho w0 w ((cl r1 [.int .i64 t18,.int .i64 t19,.int .i64 t20] N.t_Signs)::(cl r6 [.int .i64 t1,.int .i64 t1,.slice (some ⟨r4,0,none⟩) (((IntKind.i64.wrap (t1*t1))).toNat) (((IntKind.i64.wrap (t1*t1))).toNat)] N.t_Dyads)::(sl (some ⟨r4,0,none⟩) ((((IntKind.i64.wrap (t1*t1))).toNat)*3) ((((IntKind.i64.wrap (t1*t1))).toNat)*3) (dyC t14 hh21) N.t_Dyad)::(cl r3 [.int .i64 t1,.int .i64 t1,.slice a24 m25 c26] N.t_Dyads)::(cl r2 [.int .i64 t1,.int .i64 t1,.slice a29 m30 c31] N.t_Dyads)::(sl a24 (m25*3) (c26*3) (dyC t15 hh27) N.t_Dyad)::(sl a29 (m30*3) (c31*3) (dyC t16 hh32) N.t_Dyad)::it23::L)) (fun J34 hJ34=>?_) ?_
   ·
    have h:=h34
    clear h34
    obtain ⟨o35,h35,c35⟩:=bnd h
    refine cutM_i (fun s w=>∃ (t21:Int) (t22:Int) (t23:Int),(t21,t22,t23)=o35∧s=(())∧Ho w0 w ((cl r1 [.int .i64 t21,.int .i64 t22,.int .i64 t23] N.t_Signs)::(cl r6 [.int .i64 t1,.int .i64 t1,.slice (some ⟨r4,0,none⟩) (((IntKind.i64.wrap (t1*t1))).toNat) (((IntKind.i64.wrap (t1*t1))).toNat)] N.t_Dyads)::(sl (some ⟨r4,0,none⟩) ((((IntKind.i64.wrap (t1*t1))).toNat)*3) ((((IntKind.i64.wrap (t1*t1))).toNat)*3) (dyC t14 hh21) N.t_Dyad)::(cl r3 [.int .i64 t1,.int .i64 t1,.slice a24 m25 c26] N.t_Dyads)::(cl r2 [.int .i64 t1,.int .i64 t1,.slice a29 m30 c31] N.t_Dyads)::(sl a24 (m25*3) (c26*3) (dyC t15 hh27) N.t_Dyad)::(sl a29 (m30*3) (c31*3) (dyC t16 hh32) N.t_Dyad)::it23::L)) (fun J35 hJ35=>?_) ?_
    ·
     have h:=h35
     clear h35
     refine cond_s h ?_ ?_<;>intro hc h
     ·
      refine ⟨_,hS.cel mp4 rfl,?_⟩
      replace hS:=ro4 hS
      refine stc_s hS rfl rfl ?_;intro w hS
      exact hJ35 _ _ ⟨_,_,_,some_inj h,rfl,hS⟩
     obtain ⟨o36,h36,c36⟩:=bnd h
     refine cutM_i (fun s w=>∃ (t24:Int) (t25:Int),(t24,t25)=o36∧s=(())∧Ho w0 w ((cl r1 [.int .i64 t11,.int .i64 t24,.int .i64 t25] N.t_Signs)::(cl r6 [.int .i64 t1,.int .i64 t1,.slice (some ⟨r4,0,none⟩) (((IntKind.i64.wrap (t1*t1))).toNat) (((IntKind.i64.wrap (t1*t1))).toNat)] N.t_Dyads)::(sl (some ⟨r4,0,none⟩) ((((IntKind.i64.wrap (t1*t1))).toNat)*3) ((((IntKind.i64.wrap (t1*t1))).toNat)*3) (dyC t14 hh21) N.t_Dyad)::(cl r3 [.int .i64 t1,.int .i64 t1,.slice a24 m25 c26] N.t_Dyads)::(cl r2 [.int .i64 t1,.int .i64 t1,.slice a29 m30 c31] N.t_Dyads)::(sl a24 (m25*3) (c26*3) (dyC t15 hh27) N.t_Dyad)::(sl a29 (m30*3) (c31*3) (dyC t16 hh32) N.t_Dyad)::it23::L)) (fun J36 hJ36=>?_) ?_
     ·
      have h:=h36
      clear h36
      refine cond_s h ?_ ?_<;>intro hc h
      ·
       refine ⟨_,hS.cel mp4 rfl,?_⟩
       replace hS:=ro4 hS
       refine stc_s hS rfl rfl ?_;intro w hS
       exact hJ36 _ _ ⟨_,_,some_inj h,rfl,hS⟩
      refine ⟨_,hS.cel mp4 rfl,?_⟩
      replace hS:=ro4 hS
      refine stc_s hS rfl rfl ?_;intro w hS
      exact hJ36 _ _ ⟨_,_,some_inj h,rfl,hS⟩
     clear h36 hS
     rintro s w ⟨t24,t25,rfl,rfl,hS⟩
     have h:=c36
     clear c36
     try dsimp only
     exact hJ35 _ _ ⟨_,_,_,some_inj h,rfl,hS⟩
    clear h35 hS
    rintro s w ⟨t21,t22,t23,rfl,rfl,hS⟩
    have h:=c35
    clear c35
    try dsimp only
    exact hJ34 _ _ ⟨_,_,_,some_inj h,rfl,hS⟩
   clear h34 hS
   rintro s w ⟨t18,t19,t20,rfl,rfl,hS⟩
   have h:=c34
   clear c34
   try dsimp only
   obtain ⟨o50,h50,c50⟩:=bnd h
   refine cutM_i (fun s w=>∃ (t26:List Dy) (hh37:List Hd) (a39:Option Addr) (m40:Nat) (c41:Nat) (t27:List Dy) (hh42:List Hd) (a44:Option Addr) (m45:Nat) (c46:Nat) (t28:List Dy) (hh47:List Hd) (it49:It),.inl (t26,t27,t28)=o50∧s=(())∧AllD [it49] t26 hh37∧AllD [it49] t27 hh42∧AllD [it49] t28 hh47∧Ho w0 w ((cl r1 [.int .i64 t18,.int .i64 t19,.int .i64 t20] N.t_Signs)::(cl r6 [.int .i64 t1,.int .i64 t1,.slice (some ⟨r4,0,none⟩) (((IntKind.i64.wrap (t1*t1))).toNat) (((IntKind.i64.wrap (t1*t1))).toNat)] N.t_Dyads)::(sl (some ⟨r4,0,none⟩) ((((IntKind.i64.wrap (t1*t1))).toNat)*3) ((((IntKind.i64.wrap (t1*t1))).toNat)*3) (dyC t26 hh37) N.t_Dyad)::(cl r3 [.int .i64 t1,.int .i64 t1,.slice a39 m40 c41] N.t_Dyads)::(cl r2 [.int .i64 t1,.int .i64 t1,.slice a44 m45 c46] N.t_Dyads)::(sl a39 (m40*3) (c41*3) (dyC t27 hh42) N.t_Dyad)::(sl a44 (m45*3) (c46*3) (dyC t28 hh47) N.t_Dyad)::it49::L)) (fun J50 hJ50=>?_) ?_
   ·
    have h:=h50
    clear h50
    refine iter_sim (fun s w t=>∃ (t29:Int) (t30:List Dy) (hh51:List Hd) (it53:It) (a54:Option Addr) (m55:Nat) (c56:Nat) (t31:List Dy) (hh57:List Hd) (a59:Option Addr) (m60:Nat) (c61:Nat) (t32:List Dy) (hh62:List Hd),(t29,t30,t31,t32)=t∧s=(t29,())∧AllD [it53] t30 hh51∧AllD [it53] t31 hh57∧AllD [it53] t32 hh62∧Ho w0 w ((cl r1 [.int .i64 t18,.int .i64 t19,.int .i64 t20] N.t_Signs)::(cl r6 [.int .i64 t1,.int .i64 t1,.slice (some ⟨r4,0,none⟩) (((IntKind.i64.wrap (t1*t1))).toNat) (((IntKind.i64.wrap (t1*t1))).toNat)] N.t_Dyads)::(sl (some ⟨r4,0,none⟩) ((((IntKind.i64.wrap (t1*t1))).toNat)*3) ((((IntKind.i64.wrap (t1*t1))).toNat)*3) (dyC t30 hh51) N.t_Dyad)::(cl r3 [.int .i64 t1,.int .i64 t1,.slice a54 m55 c56] N.t_Dyads)::(cl r2 [.int .i64 t1,.int .i64 t1,.slice a59 m60 c61] N.t_Dyads)::(sl a54 (m55*3) (c56*3) (dyC t31 hh57) N.t_Dyad)::(sl a59 (m60*3) (c61*3) (dyC t32 hh62) N.t_Dyad)::it53::L)) ?_ h ⟨_,_,_,_,_,_,_,_,_,_,_,_,_,_,rfl,rfl,ed22,ed28,ed33,hS⟩
    clear h hS
    rintro s w t X q ⟨t29,t30,hh51,it53,a54,m55,c56,t31,hh57,a59,m60,c61,t32,hh62,rfl,rfl,ed52,ed58,ed63,hS⟩ h hX hO
    unfold T_w16_InertiaSylvester_b36 at h
    try dsimp only
    refine cond_s h ?_ ?_<;>intro hc h
    ·
     obtain ⟨o64,h64,c64⟩:=bnd h
     refine cutM_i (fun s w=>∃ (t33:Int),t33=o64∧s=(t33,())∧Ho w0 w ((cl r1 [.int .i64 t18,.int .i64 t19,.int .i64 t20] N.t_Signs)::(cl r6 [.int .i64 t1,.int .i64 t1,.slice (some ⟨r4,0,none⟩) (((IntKind.i64.wrap (t1*t1))).toNat) (((IntKind.i64.wrap (t1*t1))).toNat)] N.t_Dyads)::(sl (some ⟨r4,0,none⟩) ((((IntKind.i64.wrap (t1*t1))).toNat)*3) ((((IntKind.i64.wrap (t1*t1))).toNat)*3) (dyC t30 hh51) N.t_Dyad)::(cl r3 [.int .i64 t1,.int .i64 t1,.slice a54 m55 c56] N.t_Dyads)::(cl r2 [.int .i64 t1,.int .i64 t1,.slice a59 m60 c61] N.t_Dyads)::(sl a54 (m55*3) (c56*3) (dyC t31 hh57) N.t_Dyad)::(sl a59 (m60*3) (c61*3) (dyC t32 hh62) N.t_Dyad)::it53::L)) (fun J64 hJ64=>?_) ?_
     ·
      have h:=h64
      clear h64
      refine iter_sim (fun s w t=>∃ (t34:Int) (t35:Int),(t34,t35)=t∧s=(t34,t35,())∧Ho w0 w ((cl r1 [.int .i64 t18,.int .i64 t19,.int .i64 t20] N.t_Signs)::(cl r6 [.int .i64 t1,.int .i64 t1,.slice (some ⟨r4,0,none⟩) (((IntKind.i64.wrap (t1*t1))).toNat) (((IntKind.i64.wrap (t1*t1))).toNat)] N.t_Dyads)::(sl (some ⟨r4,0,none⟩) ((((IntKind.i64.wrap (t1*t1))).toNat)*3) ((((IntKind.i64.wrap (t1*t1))).toNat)*3) (dyC t30 hh51) N.t_Dyad)::(cl r3 [.int .i64 t1,.int .i64 t1,.slice a54 m55 c56] N.t_Dyads)::(cl r2 [.int .i64 t1,.int .i64 t1,.slice a59 m60 c61] N.t_Dyads)::(sl a54 (m55*3) (c56*3) (dyC t31 hh57) N.t_Dyad)::(sl a59 (m60*3) (c61*3) (dyC t32 hh62) N.t_Dyad)::it53::L)) ?_ h ⟨_,_,rfl,rfl,hS⟩
      clear h hS
      rintro s w t X q ⟨t34,t35,rfl,rfl,hS⟩ h hX hO
      unfold T_w16_InertiaSylvester_b38 at h
      try dsimp only
      refine cond_s h ?_ ?_<;>intro hc h
      ·
       obtain ⟨t36,ht36,h⟩:=bnd h
       refine wk_w16_lower H hS (hq1.mono tl8) ht36 ?_;rintro w hS
       refine ⟨_,rfl,?_⟩
       obtain ⟨t37,ht37,h⟩:=bnd h
       refine wk_w16_part H hS (hq2.mono tl8) ht37 ?_;rintro w hS
       refine ⟨_,rfl,?_⟩
       obtain ⟨t38,ht38,h⟩:=bnd h
       refine wk_w16_lower H hS (hq1.mono tl8) ht38 ?_;rintro w hS
       refine ⟨_,rfl,?_⟩
       obtain rfl:=some_inj h
       exact hX _ rfl _ _ ⟨_,_,rfl,rfl,hS⟩
      obtain rfl:=some_inj h
      have h:=congrArg some (hO _ rfl)
      exact hJ64 _ _ ⟨_,some_inj h,rfl,hS⟩
     clear h64 hS
     rintro s w ⟨t33,rfl,rfl,hS⟩
     have h:=c64
     clear c64
     try dsimp only
     obtain ⟨⟨t39,t40,t41⟩,ho39,h⟩:=bnd h
     refine wk_dyad_Int H hS  ho39 ?_;clear hS ho39;rintro a65 m65 c65 w hS
     refine ⟨_,_,_,_,_,rfl,?_⟩
     obtain ⟨⟨t42,t43,t44,t45⟩,ho42,h⟩:=bnd h
     refine wk_dyad_Scale H hS (Ent.sl mp0) ho42 ?_;clear hS ho42;rintro a66 m66 c66 w hS
     refine ⟨_,_,_,_,_,_,rfl,?_⟩
     refine newM_s hS ?_;intro r67 w hS
     refine stc_s hS rfl rfl ?_;intro w hS
     refine stc_s hS rfl rfl ?_;intro w hS
     refine stc_s hS rfl rfl ?_;intro w hS
     refine ⟨_,hS.cel mp0 rfl,_,_,_,hS.cel mp0 rfl,_,hS.cel mp0 rfl,?_⟩
     obtain ⟨⟨t46,t47,t48,t49⟩,ho46,h⟩:=bnd h
     refine wk_dyad_Neg H hS (Ent.sl mp1) ho46 ?_;clear hS ho46;rintro a68 m68 c68 w hS
     refine ⟨_,_,_,_,_,_,rfl,?_⟩
     refine newM_s hS ?_;intro r69 w hS
     refine stc_s hS rfl rfl ?_;intro w hS
     refine stc_s hS rfl rfl ?_;intro w hS
     refine stc_s hS rfl rfl ?_;intro w hS
     obtain ⟨o70,h70,c70⟩:=bnd h
     refine cutM_i (fun s w=>∃ (t50:Bool),t50=o70∧s=(t50,())∧Ho w0 w ((cl r69 [.bool t46,.slice a68 m68 c68,.int .i64 t48] N.t_Dyad)::(sl a68 m68 c68 (List.map (Value.int .u64) t47) N.t_uint64)::(cl r67 [.bool t42,.slice a66 m66 c66,.int .i64 t44] N.t_Dyad)::(sl a66 m66 c66 (List.map (Value.int .u64) t43) N.t_uint64)::(cl r1 [.int .i64 t18,.int .i64 t19,.int .i64 t20] N.t_Signs)::(cl r6 [.int .i64 t1,.int .i64 t1,.slice (some ⟨r4,0,none⟩) (((IntKind.i64.wrap (t1*t1))).toNat) (((IntKind.i64.wrap (t1*t1))).toNat)] N.t_Dyads)::(sl (some ⟨r4,0,none⟩) ((((IntKind.i64.wrap (t1*t1))).toNat)*3) ((((IntKind.i64.wrap (t1*t1))).toNat)*3) (dyC t30 hh51) N.t_Dyad)::(cl r3 [.int .i64 t1,.int .i64 t1,.slice a54 m55 c56] N.t_Dyads)::(cl r2 [.int .i64 t1,.int .i64 t1,.slice a59 m60 c61] N.t_Dyads)::(sl a54 (m55*3) (c56*3) (dyC t31 hh57) N.t_Dyad)::(sl a59 (m60*3) (c61*3) (dyC t32 hh62) N.t_Dyad)::it53::L)) (fun J70 hJ70=>?_) ?_
     ·
      have h:=h70
      clear h70
      refine cond_s h ?_ ?_<;>intro hc h
      ·
       obtain rfl:=some_inj h
       exact hJ70 _ _ ⟨_,rfl,rfl,(hS.pick (A:=[_,_,_,_,_,_,_,_,_,_,_,_,_]) [0,0,0,0,1,1,1,1,1,1,1,1] rfl)⟩
      obtain rfl:=some_inj h
      exact hJ70 _ _ ⟨_,rfl,rfl,(hS.pick (A:=[_,_,_,_,_,_,_,_,_,_,_,_,_]) [0,0,0,0,1,1,1,1,1,1,1,1] rfl)⟩
     clear h70 hS
     rintro s w ⟨t50,rfl,rfl,hS⟩
     have h:=c70
     clear c70
     try dsimp only
     refine cond_s h ?_ ?_<;>intro hc h
     ·
      obtain rfl:=some_inj h
      have h:=congrArg some (hO _ rfl)
      obtain rfl:=some_inj h
      have h:=c50
      obtain rfl:=some_inj h
      have h:=congrArg some (hO _ rfl)
      obtain rfl:=some_inj h
      have h:=c20
      cases some_inj h
      exact hK _ (hS.pick (A:=[_,_,_,_,_,_,_,_,_,_,_,_]) [] rfl)
     refine ⟨_,_,_,hS.cel mp8 rfl,_,hS.cel mp2 rfl,_,_,_,hS.cel mp2 rfl,_,hS.cel mp2 rfl,?_⟩
     replace hS:=ro3 hS
     have hz71:Ent [sl a66 m66 c66 (List.map (Value.int .u64) t43) N.t_uint64] (rdA (List.map (Value.int .u64) t43) a66 m66 c66):=(Ent.sl (L:=[sl a66 m66 c66 (List.map (Value.int .u64) t43) N.t_uint64]) mp0)
     replace hS:=ro11 hS
     replace hS:=ro1 hS
     replace hS:=hS.both
     replace hz71:=Ent.both (L:=[]) (y:=it53) (hz71.mono (incl_one mp0))
     replace ed52:=AllD.both (L:=[]) (x:=(sl a66 m66 c66 (List.map (Value.int .u64) t43) N.t_uint64)) (ed52.mono (incl_one mp1))
     replace ed58:=AllD.both (L:=[]) (x:=(sl a66 m66 c66 (List.map (Value.int .u64) t43) N.t_uint64)) (ed58.mono (incl_one mp1))
     replace ed63:=AllD.both (L:=[]) (x:=(sl a66 m66 c66 (List.map (Value.int .u64) t43) N.t_uint64)) (ed63.mono (incl_one mp1))
     obtain ⟨t51,ht51,h⟩:=bnd h
     obtain rfl:([(t42,t43,t44)]:List Dy)=t51:=some_inj ht51
     have ed73:AllD [(both (sl a66 m66 c66 (List.map (Value.int .u64) t43) N.t_uint64) it53)] ([(t42,t43,t44)]:List Dy) ([(a66,m66,c66)]:List Hd):=(.cons hz71 .nil)
     refine litD_s (X:=([(t42,t43,t44)]:List Dy)) (H:=([(a66,m66,c66)]:List Hd)) (m:=1) hS rfl rfl rfl ?_;intro r72 w hS
     obtain ⟨t52,ht52,h⟩:=bnd h
     obtain ⟨rfl,kt52⟩:=appE ht52
     replace hS:=ro11 hS
     have ed74:=ed63.append ed73
     refine appD_s hS kt52 ed63.len ed73.len ((Ent.sl mp1).now (fun _ h=>h) hS) rfl rfl ?_;clear hS kt52;intro a74 c74 w hS
     replace hS:=ro10 hS
     refine stc_s hS rfl rfl ?_;intro w hS
     refine ⟨_,_,_,hS.cel mp10 rfl,_,hS.cel mp4 rfl,_,_,_,hS.cel mp4 rfl,_,hS.cel mp4 rfl,?_⟩
     replace hS:=ro5 hS
     have hz75:Ent [sl a68 m68 c68 (List.map (Value.int .u64) t47) N.t_uint64] (rdA (List.map (Value.int .u64) t47) a68 m68 c68):=(Ent.sl (L:=[sl a68 m68 c68 (List.map (Value.int .u64) t47) N.t_uint64]) mp0)
     replace hS:=ro4 hS
     replace hS:=ro1 hS
     replace hS:=hS.both
     replace hz75:=Ent.both (L:=[]) (y:=(both (sl a66 m66 c66 (List.map (Value.int .u64) t43) N.t_uint64) it53)) (hz75.mono (incl_one mp0))
     replace ed74:=AllD.both (L:=[]) (x:=(sl a68 m68 c68 (List.map (Value.int .u64) t47) N.t_uint64)) (ed74.mono (incl_one mp1))
     replace ed73:=AllD.both (L:=[]) (x:=(sl a68 m68 c68 (List.map (Value.int .u64) t47) N.t_uint64)) (ed73.mono (incl_one mp1))
     replace ed52:=AllD.both (L:=[]) (x:=(sl a68 m68 c68 (List.map (Value.int .u64) t47) N.t_uint64)) (ed52.mono (incl_one mp1))
     replace ed58:=AllD.both (L:=[]) (x:=(sl a68 m68 c68 (List.map (Value.int .u64) t47) N.t_uint64)) (ed58.mono (incl_one mp1))
     replace hz71:=Ent.both (L:=[]) (x:=(sl a68 m68 c68 (List.map (Value.int .u64) t47) N.t_uint64)) (hz71.mono (incl_one mp1))
     obtain ⟨t53,ht53,h⟩:=bnd h
     obtain rfl:([(t46,t47,t48)]:List Dy)=t53:=some_inj ht53
     have ed77:AllD [(both (sl a68 m68 c68 (List.map (Value.int .u64) t47) N.t_uint64) (both (sl a66 m66 c66 (List.map (Value.int .u64) t43) N.t_uint64) it53))] ([(t46,t47,t48)]:List Dy) ([(a68,m68,c68)]:List Hd):=(.cons hz75 .nil)
     refine litD_s (X:=([(t46,t47,t48)]:List Dy)) (H:=([(a68,m68,c68)]:List Hd)) (m:=1) hS rfl rfl rfl ?_;intro r76 w hS
     obtain ⟨t54,ht54,h⟩:=bnd h
     obtain ⟨rfl,kt54⟩:=appE ht54
     replace hS:=ro11 hS
     have ed78:=ed58.append ed77
     refine appD_s hS kt54 ed58.len ed77.len ((Ent.sl mp1).now (fun _ h=>h) hS) rfl rfl ?_;clear hS kt54;intro a78 c78 w hS
     replace hS:=ro11 hS
     refine stc_s hS rfl rfl ?_;intro w hS
     refine ⟨_,_,_,hS.cel mp10 rfl,_,hS.cel mp8 rfl,_,_,_,hS.cel mp8 rfl,_,hS.cel mp8 rfl,?_⟩
     obtain ⟨t55,ht55,h⟩:=bnd h
     obtain ⟨gq79,q79x,q79k,q79l,q79r,q79e⟩:=AllD.atE ed52 ht55
     refine idxD_s ed52.len ((Ent.sl mp11).now (fun _ h=>h) hS) q79l q79r ?_;intro b80 hb80
     replace hS:=ro11 hS
     obtain ⟨t56,ht56,h⟩:=bnd h
     obtain rfl:=some_inj ht56
     have ed81:=ed52.set (x:=(t42,t43,t44)) (g:=(a66,m66,c66)) hz71 ((IntKind.i64.wrap ((IntKind.i64.wrap ((IntKind.i64.wrap ((IntKind.i64.wrap ((IntKind.i64.wrap ((IntKind.i64.wrap (t1-1))-t10))*t1))+t1))-1))-t29))).toNat
     refine stoD_s (x:=(t42,t43,t44)) (g:=(a66,m66,c66)) hS ed52.len hb80 q79r ?_;intro w hS
     obtain rfl:=some_inj h
     exact hX _ rfl _ _ ⟨_,_,_,_,_,_,_,_,_,_,_,_,_,_,rfl,rfl,ed81,ed78,ed74,(hS.pick (A:=[_,_,_,_,_,_,_,_,_,_,_,_]) [10,10,0,0,3,0,2,1] rfl)⟩
    obtain rfl:=some_inj h
    have h:=congrArg some (hO _ rfl)
    obtain rfl:=some_inj h
    exact hJ50 _ _ ⟨_,_,_,_,_,_,_,_,_,_,_,_,_,rfl,rfl,ed52,ed58,ed63,hS⟩
   clear h50 hS
   rintro s w ⟨t26,hh37,a39,m40,c41,t27,hh42,a44,m45,c46,t28,hh47,it49,rfl,rfl,ed38,ed43,ed48,hS⟩
   have h:=c50
   clear c50
   try dsimp only
   obtain rfl:=some_inj h
   exact hX _ rfl _ _ ⟨_,_,_,_,_,_,_,_,_,_,_,_,_,_,_,_,_,rfl,rfl,ed38,ed43,ed48,(hS.pick (A:=[_,_,_,_,_,_,_,_]) [1,1,1,1,0,0,0,0] rfl)⟩
  obtain rfl:=some_inj h
  have h:=congrArg some (hO _ rfl)
  obtain rfl:=some_inj h
  exact hJ20 _ _ ⟨_,_,_,_,_,_,_,_,_,_,_,_,_,_,_,_,rfl,rfl,ed22,ed28,ed33,hS⟩
 clear h20 hS
 rintro s w ⟨t4,t5,t6,t7,hh7,a9,m10,c11,t8,hh12,a14,m15,c16,t9,hh17,it19,rfl,rfl,ed8,ed13,ed18,hS⟩
 have h:=c20
 clear c20
 try dsimp only
 refine ⟨_,hS.cel mp3 rfl,_,hS.cel mp3 rfl,_,_,_,hS.cel mp3 rfl,?_⟩
 obtain ⟨⟨t57,t58,t59,t60⟩,ho57,h⟩:=bnd h
 refine wk_inertia_Signs H hS (Ent.sl mp6) (ed18.mono (incl_one mp7)) ho57 ?_;clear hS ho57;rintro w hS
 refine ⟨_,_,_,_,rfl,?_⟩
 refine newM_s hS ?_;intro r82 w hS
 refine stc_s hS rfl rfl ?_;intro w hS
 refine stc_s hS rfl rfl ?_;intro w hS
 refine stc_s hS rfl rfl ?_;intro w hS
 refine ⟨_,hS.cel mp3 rfl,_,hS.cel mp3 rfl,_,_,_,hS.cel mp3 rfl,?_⟩
 obtain ⟨⟨t61,t62,t63,t64⟩,ho61,h⟩:=bnd h
 refine wk_inertia_Signs H hS (Ent.sl mp6) (ed13.mono (incl_one mp8)) ho61 ?_;clear hS ho61;rintro w hS
 refine ⟨_,_,_,_,rfl,?_⟩
 refine newM_s hS ?_;intro r83 w hS
 refine stc_s hS rfl rfl ?_;intro w hS
 refine stc_s hS rfl rfl ?_;intro w hS
 refine stc_s hS rfl rfl ?_;intro w hS
 refine ⟨_,hS.cel mp2 rfl,_,hS.cel mp2 rfl,_,_,_,hS.cel mp2 rfl,?_⟩
 obtain ⟨⟨t65,t66,t67,t68⟩,ho65,h⟩:=bnd h
 refine wk_inertia_Signs H hS (Ent.sl mp3) (ed8.mono (incl_one mp9)) ho65 ?_;clear hS ho65;rintro w hS
 refine ⟨_,_,_,_,rfl,?_⟩
 refine newM_s hS ?_;intro r84 w hS
 refine stc_s hS rfl rfl ?_;intro w hS
 refine stc_s hS rfl rfl ?_;intro w hS
 refine stc_s hS rfl rfl ?_;intro w hS
 refine ⟨_,hS.cel mp6 rfl,_,hS.cel mp6 rfl,_,_,_,hS.cel mp6 rfl,?_⟩
 refine drM_s hS ?_;intro w hS
 obtain ⟨⟨t69,t70,t71⟩,ho69,h⟩:=bnd h
 refine wk_dyad_Int H hS  ho69 ?_;clear hS ho69;rintro a85 m85 c85 w hS
 refine ⟨_,_,_,_,_,rfl,?_⟩
 refine ⟨(hS.cel mp7 rfl),?_⟩
 refine ⟨(hS.cel mp7 rfl),?_⟩
 refine ⟨(hS.cel mp7 rfl),?_⟩
 refine drM_s hS ?_;intro w hS
 obtain ⟨⟨t72,t73⟩,ho72,h⟩:=bnd h
 refine wk_inertia_Below H hS (Ent.sl mp10) (ed18.mono (incl_one mp11)) (Ent.sl mp0) ho72 ?_;clear hS ho72;rintro w hS
 refine ⟨_,_,rfl,?_⟩
 refine drM_s hS ?_;intro w hS
 refine cond_s h ?_ ?_<;>intro hc h
 ·
  refine ⟨_,hS.cel mp3 rfl,_,hS.cel mp3 rfl,_,hS.cel mp3 rfl,_,hS.cel mp8 rfl,_,hS.cel mp8 rfl,_,hS.cel mp8 rfl,?_⟩
  refine cond_s h ?_ ?_<;>intro hc h
  ·
   refine ⟨_,hS.cel mp1 rfl,_,hS.cel mp1 rfl,_,hS.cel mp1 rfl,_,hS.cel mp8 rfl,_,hS.cel mp8 rfl,_,hS.cel mp8 rfl,?_⟩
   refine cond_s h ?_ ?_<;>intro hc h
   ·
    refine ⟨_,hS.cel mp8 rfl,?_⟩
    refine cond_s h ?_ ?_<;>intro hc h
    ·
     refine ⟨_,hS.cel mp2 rfl,_,hS.cel mp2 rfl,_,hS.cel mp2 rfl,_,hS.cel mp8 rfl,_,hS.cel mp8 rfl,_,hS.cel mp8 rfl,?_⟩
     refine cond_s h ?_ ?_<;>intro hc h
     ·
      obtain ⟨t74,ht74,h⟩:=bnd h
      refine wk_w16_awake H hS  ht74 ?_;rintro w hS
      refine ⟨_,rfl,?_⟩
      cases some_inj h
      exact hK _ (hS.pick (A:=[_,_,_,_,_,_,_,_,_,_,_,_]) [] rfl)
     cases some_inj h
     exact hK _ (hS.pick (A:=[_,_,_,_,_,_,_,_,_,_,_,_]) [] rfl)
    cases some_inj h
    exact hK _ (hS.pick (A:=[_,_,_,_,_,_,_,_,_,_,_,_]) [] rfl)
   cases some_inj h
   exact hK _ (hS.pick (A:=[_,_,_,_,_,_,_,_,_,_,_,_]) [] rfl)
  cases some_inj h
  exact hK _ (hS.pick (A:=[_,_,_,_,_,_,_,_,_,_,_,_]) [] rfl)
 cases some_inj h
 exact hK _ (hS.pick (A:=[_,_,_,_,_,_,_,_,_,_,_,_]) [] rfl)
end Go.Eng
