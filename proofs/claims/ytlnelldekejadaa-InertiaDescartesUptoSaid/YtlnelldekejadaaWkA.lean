/-
 Each function comes to what its function of plain Lean says, printed by a program of the session. No condition.
-/
import Derived.Test.YtlnelldekejadaaTpA
import Derived.Test.YtlnelldekejadaaSh
import Derived.Test.YtlnelldekejadaaBgC
set_option linter.all false
set_option maxRecDepth 100000
set_option maxHeartbeats 4000000
namespace Go.Eng
open Go
open Go.IntKind (i64 u64 u32 u8)
variable {N:Nums} {P:Program} (H:AllOk N P) {w0 w:World} {L:List It} {K:KV}
include H
theorem wk_bn_trim {q0 qh qk l0 u0b} (hS:Ho w0 w L) (qt:EW L l0 q0 qh qk) (h:T_bn_trim l0=some u0b) (hK:∀ w1,Ho w0 w1 L→K (.slice (slBase q0 0 qk 1) u0b.toNat qk) w1):CallsX P N.f_bn_trim #[.slice q0 qh qk] w K:=by
 refine H.bn_trim q0 qh qk w _ ?_
 unfold S_bn_trim
 unfold T_bn_trim at h
 try dsimp only
 obtain ⟨t1,ht1,h⟩:=bnd h
 obtain rfl:=lenE ht1 (qt.now (fun _ h=>h) hS)
 obtain ⟨o1,h1,c1⟩:=bnd h
 refine cutM_i (fun s w=>∃ (t2:Int),t2=o1∧s=(t2,())∧Ho w0 w L) (fun J1 hJ1=>?_) ?_
 ·
  have h:=h1
  clear h1
  refine iter_sim (fun s w t=>∃ (t3:Int),t3=t∧s=(t3,())∧Ho w0 w L) ?_ h ⟨_,rfl,rfl,hS⟩
  clear h hS
  rintro s w t X q ⟨t3,rfl,rfl,hS⟩ h hX hO
  unfold T_bn_trim_b2 at h
  try dsimp only
  refine cond_s h ?_ ?_<;>intro hc h
  ·
   obtain ⟨t4,ht4,h⟩:=bnd h
   obtain ⟨q2x,vj,q2r⟩:=atE ht4
   refine idx_s (qt.now (fun _ h=>h) hS) q2x vj q2r ?_;intro b3 hb3
   refine ⟨_,rd_get (qt.now (fun _ h=>h) hS) hb3 q2x,?_⟩
   refine cond_s h ?_ ?_<;>intro hc h
   ·
    obtain rfl:=some_inj h
    exact hX _ rfl _ _ ⟨_,rfl,rfl,hS⟩
   obtain rfl:=some_inj h
   have h:=congrArg some (hO _ rfl)
   exact hJ1 _ _ ⟨_,some_inj h,rfl,hS⟩
  obtain rfl:=some_inj h
  have h:=congrArg some (hO _ rfl)
  exact hJ1 _ _ ⟨_,some_inj h,rfl,hS⟩
 clear h1 hS
 rintro s w ⟨t2,rfl,rfl,hS⟩
 have h:=c1
 clear c1
 try dsimp only
 obtain ⟨t5,ht5,h⟩:=bnd h
 obtain ⟨rfl,jt,yh,yi⟩:=subE ht5
 have yl:=(qt.now (fun _ h=>h) hS).hiCap yi
 refine ⟨yh,yl,?_⟩
 cases some_inj h
 exact hK _ hS
theorem wk_bn_left {q0 qh qk l0 q1 u0} (hS:Ho w0 w L) (qt:EW L l0 q0 qh qk) (h:T_bn_left l0 q1=some u0) (hK:∀ (a0:OA) (n0 c0:Nat) (w1:World),Ho w0 w1 ((sl a0 n0 c0 (List.map (Value.int .u32) u0) N.t_uint32)::L)→K (.slice a0 n0 c0) w1):CallsX P N.f_bn_left #[.slice q0 qh qk,.int .u64 q1] w K:=by
 refine H.bn_left q0 qh qk q1 w _ ?_
 unfold S_bn_left
 unfold T_bn_left at h
 try dsimp only
 obtain ⟨t1,ht1,h⟩:=bnd h
 obtain rfl:=lenE ht1 (qt.now (fun _ h=>h) hS)
 refine cond_s h ?_ ?_<;>intro hc h
 ·
  replace hS:=hS.none (α:=Int) (enc:=(Value.int .u32)) (t:=N.t_uint32)
  cases some_inj h
  exact hK _ _ _ _ hS
 refine ⟨by decide,?_⟩
 refine ⟨by decide,?_⟩
 obtain ⟨t2,ht2,h⟩:=bnd h
 obtain rfl:=lenE ht2 (qt.now (fun _ h=>h) hS)
 obtain ⟨t3,ht3,h⟩:=bnd h
 obtain ⟨rfl,kt3⟩:=mkE ht3
 refine mk_s (enc:=(Value.int .u32)) hS kt3 rfl ?_;clear hS kt3;intro r1 w hS
 obtain ⟨o2,h2,c2⟩:=bnd h
 refine cutM_i (fun s w=>∃ (t4:List Int),t4=o2∧s=(())∧Ho w0 w ((sl (some ⟨r1,0,none⟩) (((i64.wrap ((i64.wrap ((qh:Int)+(i64.wrap (u64.wrap (q1.tdiv 32)))))+1))).toNat) (((i64.wrap ((i64.wrap ((qh:Int)+(i64.wrap (u64.wrap (q1.tdiv 32)))))+1))).toNat) (List.map (Value.int .u32) t4) N.t_uint32)::L)) (fun J2 hJ2=>?_) ?_
 ·
  have h:=h2
  clear h2
  refine iter_sim (fun s w t=>∃ (t5:Int) (t6:List Int),(t5,t6)=t∧s=(t5,())∧Ho w0 w ((sl (some ⟨r1,0,none⟩) (((i64.wrap ((i64.wrap ((qh:Int)+(i64.wrap (u64.wrap (q1.tdiv 32)))))+1))).toNat) (((i64.wrap ((i64.wrap ((qh:Int)+(i64.wrap (u64.wrap (q1.tdiv 32)))))+1))).toNat) (List.map (Value.int .u32) t6) N.t_uint32)::L)) ?_ h ⟨_,_,rfl,rfl,hS⟩
  clear h hS
  rintro s w t X q ⟨t5,t6,rfl,rfl,hS⟩ h hX hO
  unfold T_bn_left_b2 at h
  try dsimp only
  obtain ⟨t7,ht7,h⟩:=bnd h
  obtain rfl:=lenE ht7 ((qt.mono tl1).now (fun _ h=>h) hS)
  refine cond_s h ?_ ?_<;>intro hc h
  ·
   obtain ⟨t8,ht8,h⟩:=bnd h
   obtain ⟨q3x,vo,q3r⟩:=atE ht8
   refine idx_s ((qt.mono tl1).now (fun _ h=>h) hS) q3x vo q3r ?_;intro b4 hb4
   refine ⟨_,rd_get ((qt.mono tl1).now (fun _ h=>h) hS) hb4 q3x,?_⟩
   obtain ⟨t15,ht15,h⟩:=bnd h
   refine ⟨nn_s ht15,?_⟩
   obtain ⟨t9,ht9,h⟩:=bnd h
   obtain ⟨q5x,vp,q5r⟩:=atE ht9
   refine idy_s ((Ent.sl mp0).now (fun _ h=>h) hS) q5x vp q5r ?_
   refine ⟨_,rd_get ((Ent.sl mp0).now (fun _ h=>h) hS) rfl q5x,?_⟩
   obtain ⟨t10,ht10,h⟩:=bnd h
   obtain ⟨q7x,vz,q7r⟩:=atE ht10
   refine idy_s ((Ent.sl mp0).now (fun _ h=>h) hS) q7x vz q7r ?_
   obtain ⟨t11,ht11,h⟩:=bnd h
   obtain rfl:=some_inj ht11
   refine sto_s hS rfl q7r ?_;intro w hS
   obtain ⟨t12,ht12,h⟩:=bnd h
   obtain ⟨q9x,yw,q9r⟩:=atE ht12
   refine idy_s ((Ent.sl mp0).now (fun _ h=>h) hS) q9x yw q9r ?_
   refine ⟨_,rd_get ((Ent.sl mp0).now (fun _ h=>h) hS) rfl q9x,?_⟩
   refine ⟨by decide,?_⟩
   obtain ⟨t13,ht13,h⟩:=bnd h
   obtain ⟨q11x,vw,q11r⟩:=atE ht13
   refine idy_s ((Ent.sl mp0).now (fun _ h=>h) hS) q11x vw q11r ?_
   obtain ⟨t14,ht14,h⟩:=bnd h
   obtain rfl:=some_inj ht14
   refine sto_s hS rfl q11r ?_;intro w hS
   obtain rfl:=some_inj h
   exact hX _ rfl _ _ ⟨_,_,rfl,rfl,hS⟩
  obtain rfl:=some_inj h
  have h:=congrArg some (hO _ rfl)
  exact hJ2 _ _ ⟨_,some_inj h,rfl,hS⟩
 clear h2 hS
 rintro s w ⟨t4,rfl,rfl,hS⟩
 have h:=c2
 clear c2
 try dsimp only
 obtain ⟨t16,ht16,h⟩:=bnd h
 refine wk_bn_trim H hS (Ent.sl mp0) ht16 ?_;rintro w hS
 refine ⟨_,_,_,rfl,?_⟩
 obtain ⟨t17,ht17,h⟩:=bnd h
 obtain ⟨rfl,jz,ga,ym⟩:=subE ht17
 have gb:=((Ent.sl mp0).now (fun _ h=>h) hS).hiCap ym
 replace hS:=Ho.cut hS ym
 cases some_inj h
 exact hK _ _ _ _ hS
theorem wk_bI_Lsh_zz {r_0 qq qr qi qj l1_1 q2 u0a u0b} (hS:Ho w0 w ((cl r_0 [.bool qq,.slice qr qi qj] N.t_bn_Int)::L)) (qu:EW L l1_1 qr qi qj) (h:T_bI_Lsh qq l1_1 q2=some (u0a,u0b)) (hK:∀ (a0:OA) (n0 c0:Nat) (w1:World),Ho w0 w1 ((cl r_0 [.bool u0a,.slice a0 n0 c0] N.t_bn_Int)::(sl a0 n0 c0 (List.map (Value.int .u32) u0b) N.t_uint32)::L)→K (.pointer (some ⟨r_0,0,none⟩)) w1):CallsX P N.f_bI_Lsh #[.pointer (some ⟨r_0,0,none⟩),.pointer (some ⟨r_0,0,none⟩),.int .u64 q2] w K:=by
 refine H.bI_Lsh (some ⟨r_0,0,none⟩) (some ⟨r_0,0,none⟩) q2 w _ ?_
 unfold S_bI_Lsh
 unfold T_bI_Lsh at h
 try dsimp only
 refine optM_s ?_
 refine ⟨_,hS.cel mp0 rfl,?_⟩
 refine optM_s ?_
 refine ⟨_,_,_,hS.cel mp0 rfl,?_⟩
 refine drM_s hS ?_;intro w hS
 obtain ⟨t1,ht1,h⟩:=bnd h
 refine wk_bn_left H hS (qu.mono tl1) ht1 ?_;rintro a1 m1 c1 w hS
 refine ⟨_,_,_,rfl,?_⟩
 refine ⟨(hS.cel mp1 rfl),?_⟩
 refine drM_s hS ?_;intro w hS
 obtain ⟨t2,ht2,h⟩:=bnd h
 replace hS:=ro1 hS
 obtain rfl:=some_inj ht2
 refine give_c H hS (Ent.sl mp1) ?_;intro w hS
 refine ⟨_,rfl,?_⟩
 refine drM_s hS ?_;intro w hS
 cases some_inj h
 exact hK _ _ _ _ hS
theorem wk_bn_words {q0 u0} (hS:Ho w0 w L)  (h:T_bn_words q0=some u0) (hK:∀ (a0:OA) (n0 c0:Nat) (w1:World),Ho w0 w1 ((sl a0 n0 c0 (List.map (Value.int .u32) u0) N.t_uint32)::L)→K (.slice a0 n0 c0) w1):CallsX P N.f_bn_words #[.int .u64 q0] w K:=by
 refine H.bn_words q0 w _ ?_
 unfold S_bn_words
 unfold T_bn_words at h
 try dsimp only
 refine ⟨by decide,?_⟩
 obtain ⟨t1,ht1,h⟩:=bnd h
 obtain rfl:([(u32.wrap q0),(u32.wrap (q0.fdiv (2^(min (32:Int).toNat u64.bits))))]:List Int)=t1:=some_inj ht1
 refine lit_s (ks:=[(u32.wrap q0),(u32.wrap (q0.fdiv (2^(min (32:Int).toNat u64.bits))))]) (enc:=(Value.int .u32)) (m:=2) hS rfl rfl ?_;intro r1 w hS
 obtain ⟨t2,ht2,h⟩:=bnd h
 refine wk_bn_trim H hS (Ent.sl mp0) ht2 ?_;rintro w hS
 refine ⟨_,_,_,rfl,?_⟩
 obtain ⟨t3,ht3,h⟩:=bnd h
 obtain ⟨rfl,zl,zm,ju⟩:=subE ht3
 have zn:=((Ent.sl mp0).now (fun _ h=>h) hS).hiCap ju
 replace hS:=Ho.cut hS ju
 cases some_inj h
 exact hK _ _ _ _ hS
theorem wk_bI_SetUint64_z {r_0} {b_0 s_0:Value} {q1 u0a u0b} (hS:Ho w0 w ((cl r_0 [b_0,s_0] N.t_bn_Int)::L))  (h:T_bI_SetUint64 q1=some (u0a,u0b)) (hK:∀ (a0:OA) (n0 c0:Nat) (w1:World),Ho w0 w1 ((cl r_0 [.bool u0a,.slice a0 n0 c0] N.t_bn_Int)::(sl a0 n0 c0 (List.map (Value.int .u32) u0b) N.t_uint32)::L)→K (.pointer (some ⟨r_0,0,none⟩)) w1):CallsX P N.f_bI_SetUint64 #[.pointer (some ⟨r_0,0,none⟩),.int .u64 q1] w K:=by
 refine H.bI_SetUint64 (some ⟨r_0,0,none⟩) q1 w _ ?_
 unfold S_bI_SetUint64
 unfold T_bI_SetUint64 at h
 try dsimp only
 obtain ⟨t1,ht1,h⟩:=bnd h
 refine wk_bn_words H hS  ht1 ?_;rintro a1 m1 c1 w hS
 refine ⟨_,_,_,rfl,?_⟩
 obtain ⟨t2,ht2,h⟩:=bnd h
 replace hS:=ro1 hS
 obtain rfl:=some_inj ht2
 refine give_c H hS (Ent.sl mp1) ?_;intro w hS
 refine ⟨_,rfl,?_⟩
 cases some_inj h
 exact hK _ _ _ _ hS
theorem wk_bI_low_x {r_0 qe qf qb qd l0_1 q1 u0} (hS:Ho w0 w L) (eq0:Ent L (cl r_0 [.bool qe,.slice qf qb qd] N.t_bn_Int).A) (qm:EW L l0_1 qf qb qd) (h:T_bI_low qe l0_1 q1=some u0) (hK:∀ (a0:OA) (n0 c0:Nat) (w1:World),Ho w0 w1 ((sl a0 n0 c0 (List.map (Value.int .u32) u0) N.t_uint32)::L)→K (.slice a0 n0 c0) w1):CallsX P N.f_bI_low #[.pointer (some ⟨r_0,0,none⟩),.int .i64 q1] w K:=by
 refine H.bI_low (some ⟨r_0,0,none⟩) q1 w _ ?_
 unfold S_bI_low
 unfold T_bI_low at h
 try dsimp only
 obtain ⟨t1,ht1,h⟩:=bnd h
 obtain ⟨rfl,kt1⟩:=mkE ht1
 refine mk_s (enc:=(Value.int .u32)) hS kt1 rfl ?_;clear hS kt1;intro r1 w hS
 refine optM_s ?_
 refine ⟨_,_,_,(eq0.cel tl1 hS rfl),?_⟩
 obtain ⟨t2,ht2,h⟩:=bnd h
 obtain rfl:=some_inj ht2
 refine cop_s hS ((qm.mono tl1).now (fun _ h=>h) hS) (fun _=>rfl) ?_;intro w hS
 refine optM_s ?_
 refine ⟨_,(eq0.cel tl1 hS rfl),?_⟩
 obtain ⟨o2,h2,c2⟩:=bnd h
 refine cutM_i (fun s w=>∃ (t3:List Int),t3=o2∧s=(())∧Ho w0 w ((sl (some ⟨r1,0,none⟩) ((q1).toNat) ((q1).toNat) (List.map (Value.int .u32) t3) N.t_uint32)::L)) (fun J2 hJ2=>?_) ?_
 ·
  have h:=h2
  clear h2
  refine cond_s h ?_ ?_<;>intro hc h
  ·
   obtain ⟨o3,h3,c3⟩:=bnd h
   refine cutM_i (fun s w=>∃ (t4:List Int),t4=o3∧s=(())∧Ho w0 w ((sl (some ⟨r1,0,none⟩) ((q1).toNat) ((q1).toNat) (List.map (Value.int .u32) t4) N.t_uint32)::L)) (fun J3 hJ3=>?_) ?_
   ·
    have h:=h3
    clear h3
    refine iter_sim (fun s w t=>∃ (t5:Int) (t6:Int) (t7:List Int),(t5,t6,t7)=t∧s=(t5,t6,())∧Ho w0 w ((sl (some ⟨r1,0,none⟩) ((q1).toNat) ((q1).toNat) (List.map (Value.int .u32) t7) N.t_uint32)::L)) ?_ h ⟨_,_,_,rfl,rfl,hS⟩
    clear h hS
    rintro s w t X q ⟨t5,t6,t7,rfl,rfl,hS⟩ h hX hO
    unfold T_bI_low_b3 at h
    try dsimp only
    refine cond_s h ?_ ?_<;>intro hc h
    ·
     obtain ⟨t8,ht8,h⟩:=bnd h
     obtain ⟨q4x,vq,q4r⟩:=atE ht8
     refine idy_s ((Ent.sl mp0).now (fun _ h=>h) hS) q4x vq q4r ?_
     refine ⟨_,rd_get ((Ent.sl mp0).now (fun _ h=>h) hS) rfl q4x,?_⟩
     obtain ⟨t9,ht9,h⟩:=bnd h
     obtain ⟨q6x,vx,q6r⟩:=atE ht9
     refine idy_s ((Ent.sl mp0).now (fun _ h=>h) hS) q6x vx q6r ?_
     obtain ⟨t10,ht10,h⟩:=bnd h
     obtain rfl:=some_inj ht10
     refine sto_s hS rfl q6r ?_;intro w hS
     refine ⟨by decide,?_⟩
     obtain rfl:=some_inj h
     exact hX _ rfl _ _ ⟨_,_,_,rfl,rfl,hS⟩
    obtain rfl:=some_inj h
    have h:=congrArg some (hO _ rfl)
    exact hJ3 _ _ ⟨_,some_inj h,rfl,hS⟩
   clear h3 hS
   rintro s w ⟨t4,rfl,rfl,hS⟩
   have h:=c3
   clear c3
   try dsimp only
   exact hJ2 _ _ ⟨_,some_inj h,rfl,hS⟩
  exact hJ2 _ _ ⟨_,some_inj h,rfl,hS⟩
 clear h2 hS
 rintro s w ⟨t3,rfl,rfl,hS⟩
 have h:=c2
 clear c2
 try dsimp only
 cases some_inj h
 exact hK _ _ _ _ hS
theorem wk_bI_of_z {r_0} {b_0 s_0:Value} {q1 qs qx l1 u0a u0b} (hS:Ho w0 w ((cl r_0 [b_0,s_0] N.t_bn_Int)::(sl q1 qs qx (List.map (Value.int .u32) l1) N.t_uint32)::L))  (h:T_bI_of l1=some (u0a,u0b)) (hK:∀ (a0:OA) (n0 c0:Nat) (w1:World),Ho w0 w1 ((cl r_0 [.bool u0a,.slice a0 n0 c0] N.t_bn_Int)::(sl a0 n0 c0 (List.map (Value.int .u32) u0b) N.t_uint32)::L)→K (.pointer (some ⟨r_0,0,none⟩)) w1):CallsX P N.f_bI_of #[.pointer (some ⟨r_0,0,none⟩),.slice q1 qs qx] w K:=by
 refine H.bI_of (some ⟨r_0,0,none⟩) q1 qs qx w _ ?_
 unfold S_bI_of
 unfold T_bI_of at h
 try dsimp only
 obtain ⟨o1,h1,c1⟩:=bnd h
 refine cutM_i (fun s w=>∃ (t1:Bool),t1=o1∧s=(t1,())∧Ho w0 w ((cl r_0 [b_0,s_0] N.t_bn_Int)::(sl q1 qs qx (List.map (Value.int .u32) l1) N.t_uint32)::L)) (fun J1 hJ1=>?_) ?_
 ·
  have h:=h1
  clear h1
  obtain ⟨t2,ht2,h⟩:=bnd h
  obtain rfl:=lenE ht2 ((Ent.sl mp1).now (fun _ h=>h) hS)
  refine cond_s h ?_ ?_<;>intro hc h
  ·
   obtain ⟨t3,ht3,h⟩:=bnd h
   obtain rfl:=lenE ht3 ((Ent.sl mp1).now (fun _ h=>h) hS)
   obtain ⟨t4,ht4,h⟩:=bnd h
   obtain ⟨q2x,vj,q2r⟩:=atE ht4
   refine idx_s ((Ent.sl mp1).now (fun _ h=>h) hS) q2x vj q2r ?_;intro b3 hb3
   refine ⟨_,rd_get ((Ent.sl mp1).now (fun _ h=>h) hS) hb3 q2x,?_⟩
   refine ⟨by decide,?_⟩
   exact hJ1 _ _ ⟨_,some_inj h,rfl,hS⟩
  exact hJ1 _ _ ⟨_,some_inj h,rfl,hS⟩
 clear h1 hS
 rintro s w ⟨t1,rfl,rfl,hS⟩
 have h:=c1
 clear c1
 try dsimp only
 refine cond_s h ?_ ?_<;>intro hc h
 ·
  obtain ⟨o4,h4,c4⟩:=bnd h
  refine cutM_i (fun s w=>∃ (t5:List Int),t5=o4∧s=(())∧Ho w0 w ((cl r_0 [b_0,s_0] N.t_bn_Int)::(sl q1 qs qx (List.map (Value.int .u32) t5) N.t_uint32)::L)) (fun J4 hJ4=>?_) ?_
  ·
   have h:=h4
   clear h4
   refine iter_sim (fun s w t=>∃ (t6:Int) (t7:Int) (t8:List Int),(t6,t7,t8)=t∧s=(t6,t7,())∧Ho w0 w ((cl r_0 [b_0,s_0] N.t_bn_Int)::(sl q1 qs qx (List.map (Value.int .u32) t8) N.t_uint32)::L)) ?_ h ⟨_,_,_,rfl,rfl,hS⟩
   clear h hS
   rintro s w t X q ⟨t6,t7,t8,rfl,rfl,hS⟩ h hX hO
   unfold T_bI_of_b2 at h
   try dsimp only
   obtain ⟨t9,ht9,h⟩:=bnd h
   obtain rfl:=lenE ht9 ((Ent.sl mp1).now (fun _ h=>h) hS)
   refine cond_s h ?_ ?_<;>intro hc h
   ·
    obtain ⟨t10,ht10,h⟩:=bnd h
    obtain ⟨q5x,vp,q5r⟩:=atE ht10
    refine idx_s ((Ent.sl mp1).now (fun _ h=>h) hS) q5x vp q5r ?_;intro b6 hb6
    refine ⟨_,rd_get ((Ent.sl mp1).now (fun _ h=>h) hS) hb6 q5x,?_⟩
    obtain ⟨t11,ht11,h⟩:=bnd h
    obtain ⟨q7x,vz,q7r⟩:=atE ht11
    refine idx_s ((Ent.sl mp1).now (fun _ h=>h) hS) q7x vz q7r ?_;intro b8 hb8
    replace hS:=ro1 hS
    obtain ⟨t12,ht12,h⟩:=bnd h
    obtain rfl:=some_inj ht12
    refine sto_s hS hb8 q7r ?_;intro w hS
    refine ⟨by decide,?_⟩
    obtain rfl:=some_inj h
    exact hX _ rfl _ _ ⟨_,_,_,rfl,rfl,(hS.pick (A:=[_,_]) [1,0] rfl)⟩
   obtain rfl:=some_inj h
   have h:=congrArg some (hO _ rfl)
   exact hJ4 _ _ ⟨_,some_inj h,rfl,hS⟩
  clear h4 hS
  rintro s w ⟨t5,rfl,rfl,hS⟩
  have h:=c4
  clear c4
  try dsimp only
  obtain ⟨t13,ht13,h⟩:=bnd h
  refine wk_bn_trim H hS (Ent.sl mp1) ht13 ?_;rintro w hS
  refine ⟨_,_,_,rfl,?_⟩
  obtain ⟨t14,ht14,h⟩:=bnd h
  obtain ⟨rfl,ge,yx,ya⟩:=subE ht14
  have gf:=((Ent.sl mp1).now (fun _ h=>h) hS).hiCap ya
  obtain ⟨t15,ht15,h⟩:=bnd h
  obtain rfl:=some_inj ht15
  refine give_c H hS (Ent.upto (Ent.sl mp1) yx ya) ?_;intro w hS
  refine ⟨_,rfl,?_⟩
  replace hS:=ro1 hS
  replace hS:=Ho.cut hS ya
  cases some_inj h
  exact hK _ _ _ _ (hS.pick (A:=[_,_]) [1,0] rfl)
 obtain ⟨t16,ht16,h⟩:=bnd h
 refine wk_bn_trim H hS (Ent.sl mp1) ht16 ?_;rintro w hS
 refine ⟨_,_,_,rfl,?_⟩
 obtain ⟨t17,ht17,h⟩:=bnd h
 obtain ⟨rfl,gh,yy,yb⟩:=subE ht17
 have gi:=((Ent.sl mp1).now (fun _ h=>h) hS).hiCap yb
 obtain ⟨t18,ht18,h⟩:=bnd h
 obtain rfl:=some_inj ht18
 refine give_c H hS (Ent.upto (Ent.sl mp1) yy yb) ?_;intro w hS
 refine ⟨_,rfl,?_⟩
 replace hS:=ro1 hS
 replace hS:=Ho.cut hS yb
 cases some_inj h
 exact hK _ _ _ _ (hS.pick (A:=[_,_]) [1,0] rfl)
theorem wk_bI_Or_zzy {r_0 qq qr qi qj l1_1 r_2 vm vn vf vg l2_1 u0a u0b} (hS:Ho w0 w ((cl r_0 [.bool qq,.slice qr qi qj] N.t_bn_Int)::L)) (qu:EW L l1_1 qr qi qj) (eq2:Ent L (cl r_2 [.bool vm,.slice vn vf vg] N.t_bn_Int).A) (vh:EW L l2_1 vn vf vg) (h:T_bI_Or qq l1_1 vm l2_1=some (u0a,u0b)) (hK:∀ (a0:OA) (n0 c0:Nat) (w1:World),Ho w0 w1 ((cl r_0 [.bool u0a,.slice a0 n0 c0] N.t_bn_Int)::(sl a0 n0 c0 (List.map (Value.int .u32) u0b) N.t_uint32)::L)→K (.pointer (some ⟨r_0,0,none⟩)) w1):CallsX P N.f_bI_Or #[.pointer (some ⟨r_0,0,none⟩),.pointer (some ⟨r_0,0,none⟩),.pointer (some ⟨r_2,0,none⟩)] w K:=by
 refine H.bI_Or (some ⟨r_0,0,none⟩) (some ⟨r_0,0,none⟩) (some ⟨r_2,0,none⟩) w _ ?_
 unfold S_bI_Or
 unfold T_bI_Or at h
 try dsimp only
 refine optM_s ?_
 refine ⟨_,_,_,hS.cel mp0 rfl,?_⟩
 obtain ⟨t1,ht1,h⟩:=bnd h
 obtain rfl:=lenE ht1 ((qu.mono tl1).now (fun _ h=>h) hS)
 refine optM_s ?_
 refine ⟨_,_,_,(eq2.cel tl1 hS rfl),?_⟩
 obtain ⟨t2,ht2,h⟩:=bnd h
 obtain rfl:=lenE ht2 ((vh.mono tl1).now (fun _ h=>h) hS)
 refine drM_s hS ?_;intro w hS
 obtain ⟨t3,ht3,h⟩:=bnd h
 refine wk_bI_low_x H hS (Ent.of mp0) (qu.mono tl1) ht3 ?_;rintro a1 m1 c1 w hS
 refine ⟨_,_,_,rfl,?_⟩
 obtain ⟨t4,ht4,h⟩:=bnd h
 refine wk_bI_low_x H hS (eq2.mono tl2) (vh.mono tl2) ht4 ?_;rintro a2 m2 c2 w hS
 refine ⟨_,_,_,rfl,?_⟩
 obtain ⟨o3,h3,c3⟩:=bnd h
 refine cutM_i (fun s w=>∃ (t5:List Int),t5=o3∧s=(())∧Ho w0 w ((sl a1 m1 c1 (List.map (Value.int .u32) t5) N.t_uint32)::(cl r_0 [.bool qq,.slice qr qi qj] N.t_bn_Int)::L)) (fun J3 hJ3=>?_) ?_
 ·
  have h:=h3
  clear h3
  refine iter_sim (fun s w t=>∃ (t6:Int) (t7:List Int),(t6,t7)=t∧s=(t6,())∧Ho w0 w ((sl a2 m2 c2 (List.map (Value.int .u32) t4) N.t_uint32)::(sl a1 m1 c1 (List.map (Value.int .u32) t7) N.t_uint32)::(cl r_0 [.bool qq,.slice qr qi qj] N.t_bn_Int)::L)) ?_ h ⟨_,_,rfl,rfl,hS⟩
  clear h hS
  rintro s w t X q ⟨t6,t7,rfl,rfl,hS⟩ h hX hO
  unfold T_bI_Or_b2 at h
  try dsimp only
  refine cond_s h ?_ ?_<;>intro hc h
  ·
   obtain ⟨t8,ht8,h⟩:=bnd h
   obtain ⟨q4x,vq,q4r⟩:=atE ht8
   refine idx_s ((Ent.sl mp1).now (fun _ h=>h) hS) q4x vq q4r ?_;intro b5 hb5
   refine ⟨_,rd_get ((Ent.sl mp1).now (fun _ h=>h) hS) hb5 q4x,?_⟩
   obtain ⟨t9,ht9,h⟩:=bnd h
   obtain ⟨q6x,vx,q6r⟩:=atE ht9
   refine idx_s ((Ent.sl mp0).now (fun _ h=>h) hS) q6x vx q6r ?_;intro b7 hb7
   refine ⟨_,rd_get ((Ent.sl mp0).now (fun _ h=>h) hS) hb7 q6x,?_⟩
   obtain ⟨t10,ht10,h⟩:=bnd h
   obtain ⟨q8x,vt,q8r⟩:=atE ht10
   refine idx_s ((Ent.sl mp1).now (fun _ h=>h) hS) q8x vt q8r ?_;intro b9 hb9
   refine drM_s hS ?_;intro w hS
   replace hS:=ro1 hS
   obtain ⟨t11,ht11,h⟩:=bnd h
   obtain rfl:=some_inj ht11
   refine sto_s hS hb9 q8r ?_;intro w hS
   refine drM_s hS ?_;intro w hS
   obtain rfl:=some_inj h
   exact hX _ rfl _ _ ⟨_,_,rfl,rfl,(hS.pick (A:=[_,_,_]) [1,0,0] rfl)⟩
  obtain rfl:=some_inj h
  have h:=congrArg some (hO _ rfl)
  obtain rfl:=some_inj h
  exact hJ3 _ _ ⟨_,rfl,rfl,(hS.pick (A:=[_,_,_]) [1,1] rfl)⟩
 clear h3 hS
 rintro s w ⟨t5,rfl,rfl,hS⟩
 have h:=c3
 clear c3
 try dsimp only
 replace hS:=ro1 hS
 obtain ⟨⟨t12,t13⟩,ho12,h⟩:=bnd h
 refine wk_bI_of_z H hS ho12 ?_;clear hS ho12;rintro a10 m10 c10 w hS
 refine ⟨_,rfl,?_⟩
 cases some_inj h
 exact hK _ _ _ _ hS
theorem wk_bn_twin {q0 qh qk l0 u0} (hS:Ho w0 w L) (qt:EW L l0 q0 qh qk) (h:T_bn_twin l0=some u0) (hK:∀ (a0:OA) (n0 c0:Nat) (w1:World),Ho w0 w1 ((sl a0 n0 c0 (List.map (Value.int .u32) u0) N.t_uint32)::L)→K (.slice a0 n0 c0) w1):CallsX P N.f_bn_twin #[.slice q0 qh qk] w K:=by
 refine H.bn_twin q0 qh qk w _ ?_
 unfold S_bn_twin
 unfold T_bn_twin at h
 try dsimp only
 obtain ⟨t1,ht1,h⟩:=bnd h
 obtain ⟨rfl,kt1⟩:=appE ht1
 replace hS:=hS.none (α:=Int) (enc:=(Value.int .u32)) (t:=N.t_uint32)
 refine app_s hS kt1 ((qt.mono tl1).now (fun _ h=>h) hS) (fun _=>rfl) rfl ?_;clear hS kt1;intro a1 c1 w hS
 cases some_inj h
 exact hK _ _ _ _ hS
theorem wk_bI_Neg_zz {r_0 qq qr qi qj l1_1 u0a u0b} (hS:Ho w0 w ((cl r_0 [.bool qq,.slice qr qi qj] N.t_bn_Int)::L)) (qu:EW L l1_1 qr qi qj) (h:T_bI_Neg qq l1_1=some (u0a,u0b)) (hK:∀ (a0:OA) (n0 c0:Nat) (w1:World),Ho w0 w1 ((cl r_0 [.bool u0a,.slice a0 n0 c0] N.t_bn_Int)::(sl a0 n0 c0 (List.map (Value.int .u32) u0b) N.t_uint32)::L)→K (.pointer (some ⟨r_0,0,none⟩)) w1):CallsX P N.f_bI_Neg #[.pointer (some ⟨r_0,0,none⟩),.pointer (some ⟨r_0,0,none⟩)] w K:=by
 refine H.bI_Neg (some ⟨r_0,0,none⟩) (some ⟨r_0,0,none⟩) w _ ?_
 unfold S_bI_Neg
 unfold T_bI_Neg at h
 try dsimp only
 refine optM_s ?_
 refine ⟨_,hS.cel mp0 rfl,?_⟩
 refine optM_s ?_
 refine ⟨_,_,_,hS.cel mp0 rfl,?_⟩
 refine drM_s hS ?_;intro w hS
 obtain ⟨t1,ht1,h⟩:=bnd h
 refine wk_bn_twin H hS (qu.mono tl1) ht1 ?_;rintro a1 m1 c1 w hS
 refine ⟨_,_,_,rfl,?_⟩
 refine ⟨(hS.cel mp1 rfl),?_⟩
 refine drM_s hS ?_;intro w hS
 obtain ⟨t2,ht2,h⟩:=bnd h
 replace hS:=ro1 hS
 obtain rfl:=some_inj ht2
 refine give_c H hS (Ent.sl mp1) ?_;intro w hS
 refine ⟨_,rfl,?_⟩
 refine drM_s hS ?_;intro w hS
 cases some_inj h
 exact hK _ _ _ _ hS
theorem wk_bn_cmp {q0 qh qk l0 q1 qs qx l1 u0} (hS:Ho w0 w L) (qt:EW L l0 q0 qh qk) (qz:EW L l1 q1 qs qx) (h:T_bn_cmp l0 l1=some u0) (hK:∀ w1,Ho w0 w1 L→K (.int .i64 u0) w1):CallsX P N.f_bn_cmp #[.slice q0 qh qk,.slice q1 qs qx] w K:=by
 refine H.bn_cmp q0 qh qk q1 qs qx w _ ?_
 unfold S_bn_cmp
 unfold T_bn_cmp at h
 try dsimp only
 obtain ⟨t1,ht1,h⟩:=bnd h
 obtain rfl:=lenE ht1 (qt.now (fun _ h=>h) hS)
 obtain ⟨t2,ht2,h⟩:=bnd h
 obtain rfl:=lenE ht2 (qz.now (fun _ h=>h) hS)
 refine cond_s h ?_ ?_<;>intro hc h
 ·
  obtain ⟨t3,ht3,h⟩:=bnd h
  obtain rfl:=lenE ht3 (qt.now (fun _ h=>h) hS)
  obtain ⟨t4,ht4,h⟩:=bnd h
  obtain rfl:=lenE ht4 (qz.now (fun _ h=>h) hS)
  refine cond_s h ?_ ?_<;>intro hc h
  ·
   cases some_inj h
   exact hK _ hS
  cases some_inj h
  exact hK _ hS
 obtain ⟨t5,ht5,h⟩:=bnd h
 obtain rfl:=lenE ht5 (qt.now (fun _ h=>h) hS)
 obtain ⟨o1,h1,c1⟩:=bnd h
 refine cutM_i (fun s w =>  .inl ()=o1∧s=(())∧Ho w0 w L) (fun J1 hJ1=>?_) ?_
 ·
  have h:=h1
  clear h1
  refine iter_sim (fun s w t=>∃ (t6:Int),t6=t∧s=(t6,())∧Ho w0 w L) ?_ h ⟨_,rfl,rfl,hS⟩
  clear h hS
  rintro s w t X q ⟨t6,rfl,rfl,hS⟩ h hX hO
  unfold T_bn_cmp_b2 at h
  try dsimp only
  refine cond_s h ?_ ?_<;>intro hc h
  ·
   obtain ⟨t7,ht7,h⟩:=bnd h
   obtain ⟨q2x,vj,q2r⟩:=atE ht7
   refine idx_s (qt.now (fun _ h=>h) hS) q2x vj q2r ?_;intro b3 hb3
   refine ⟨_,rd_get (qt.now (fun _ h=>h) hS) hb3 q2x,?_⟩
   obtain ⟨t8,ht8,h⟩:=bnd h
   obtain ⟨q4x,vq,q4r⟩:=atE ht8
   refine idx_s (qz.now (fun _ h=>h) hS) q4x vq q4r ?_;intro b5 hb5
   refine ⟨_,rd_get (qz.now (fun _ h=>h) hS) hb5 q4x,?_⟩
   refine drM_s hS ?_;intro w hS
   refine cond_s h ?_ ?_<;>intro hc h
   ·
    obtain ⟨t9,ht9,h⟩:=bnd h
    obtain ⟨q6x,vx,q6r⟩:=atE ht9
    refine idx_s (qt.now (fun _ h=>h) hS) q6x vx q6r ?_;intro b7 hb7
    refine ⟨_,rd_get (qt.now (fun _ h=>h) hS) hb7 q6x,?_⟩
    obtain ⟨t10,ht10,h⟩:=bnd h
    obtain ⟨q8x,vt,q8r⟩:=atE ht10
    refine idx_s (qz.now (fun _ h=>h) hS) q8x vt q8r ?_;intro b9 hb9
    refine ⟨_,rd_get (qz.now (fun _ h=>h) hS) hb9 q8x,?_⟩
    refine drM_s hS ?_;intro w hS
    refine cond_s h ?_ ?_<;>intro hc h
    ·
     obtain rfl:=some_inj h
     have h:=congrArg some (hO _ rfl)
     obtain rfl:=some_inj h
     have h:=c1
     cases some_inj h
     exact hK _ hS
    obtain rfl:=some_inj h
    have h:=congrArg some (hO _ rfl)
    obtain rfl:=some_inj h
    have h:=c1
    cases some_inj h
    exact hK _ hS
   obtain rfl:=some_inj h
   exact hX _ rfl _ _ ⟨_,rfl,rfl,hS⟩
  obtain rfl:=some_inj h
  have h:=congrArg some (hO _ rfl)
  exact hJ1 _ _ ⟨some_inj h,rfl,hS⟩
 clear h1 hS
 rintro s w ⟨rfl,rfl,hS⟩
 have h:=c1
 clear c1
 try dsimp only
 cases some_inj h
 exact hK _ hS
theorem wk_bI_Cmp_xy {r_0 qe qf qb qd l0_1 r_1 qq qr qi qj l1_1 u0} (hS:Ho w0 w L) (eq0:Ent L (cl r_0 [.bool qe,.slice qf qb qd] N.t_bn_Int).A) (qm:EW L l0_1 qf qb qd) (eq1:Ent L (cl r_1 [.bool qq,.slice qr qi qj] N.t_bn_Int).A) (qu:EW L l1_1 qr qi qj) (h:T_bI_Cmp qe l0_1 qq l1_1=some u0) (hK:∀ w1,Ho w0 w1 L→K (.int .i64 u0) w1):CallsX P N.f_bI_Cmp #[.pointer (some ⟨r_0,0,none⟩),.pointer (some ⟨r_1,0,none⟩)] w K:=by
 refine H.bI_Cmp (some ⟨r_0,0,none⟩) (some ⟨r_1,0,none⟩) w _ ?_
 unfold S_bI_Cmp
 unfold T_bI_Cmp at h
 try dsimp only
 refine optM_s ?_
 refine ⟨_,(eq0.cel (fun _ h=>h) hS rfl),?_⟩
 refine optM_s ?_
 refine ⟨_,(eq1.cel (fun _ h=>h) hS rfl),?_⟩
 refine drM_s hS ?_;intro w hS
 refine cond_s h ?_ ?_<;>intro hc h
 ·
  refine optM_s ?_
  refine ⟨_,(eq0.cel (fun _ h=>h) hS rfl),?_⟩
  refine cond_s h ?_ ?_<;>intro hc h
  ·
   cases some_inj h
   exact hK _ hS
  cases some_inj h
  exact hK _ hS
 refine optM_s ?_
 refine ⟨_,_,_,(eq0.cel (fun _ h=>h) hS rfl),?_⟩
 refine optM_s ?_
 refine ⟨_,_,_,(eq1.cel (fun _ h=>h) hS rfl),?_⟩
 refine drM_s hS ?_;intro w hS
 obtain ⟨t1,ht1,h⟩:=bnd h
 refine wk_bn_cmp H hS qm qu ht1 ?_;rintro w hS
 refine ⟨_,rfl,?_⟩
 refine drM_s hS ?_;intro w hS
 refine optM_s ?_
 refine ⟨_,(eq0.cel (fun _ h=>h) hS rfl),?_⟩
 refine cond_s h ?_ ?_<;>intro hc h
 ·
  cases some_inj h
  exact hK _ hS
 cases some_inj h
 exact hK _ hS
theorem wk_bn_add {q0 qh qk l0 q1 qs qx l1 u0} (hS:Ho w0 w L) (qt:EW L l0 q0 qh qk) (qz:EW L l1 q1 qs qx) (h:T_bn_add l0 l1=some u0) (hK:∀ (a0:OA) (n0 c0:Nat) (w1:World),Ho w0 w1 ((sl a0 n0 c0 (List.map (Value.int .u32) u0) N.t_uint32)::L)→K (.slice a0 n0 c0) w1):CallsX P N.f_bn_add #[.slice q0 qh qk,.slice q1 qs qx] w K:=by
 refine H.bn_add q0 qh qk q1 qs qx w _ ?_
 unfold S_bn_add
 unfold T_bn_add at h
 try dsimp only
 obtain ⟨t1,ht1,h⟩:=bnd h
 obtain rfl:=lenE ht1 (qt.now (fun _ h=>h) hS)
 obtain ⟨t2,ht2,h⟩:=bnd h
 obtain rfl:=lenE ht2 (qz.now (fun _ h=>h) hS)
 obtain ⟨o11,h11,c11⟩:=bnd h
 refine cutM_i (fun s w=>∃ (a1:OA) (m2:Nat) (c3:Nat) (t3:List Int) (it4:It) (a6:OA) (m7:Nat) (c8:Nat) (t4:List Int) (it9:It),(t3,t4)=o11∧s=((a1,m2,c3),(a6,m7,c8),())∧Ent (it4::L) (rdA (List.map (Value.int .u32) t3) a1 m2 c3)∧Ent (it9::L) (rdA (List.map (Value.int .u32) t4) a6 m7 c8)∧Ho w0 w (it4::it9::L)) (fun J11 hJ11=>?_) ?_
 ·
  have h:=h11
  clear h11
  refine cond_s h ?_ ?_<;>intro hc h
  ·
   replace hS:=hS.voidItem
   replace hS:=hS.voidItem
   obtain rfl:=some_inj h
   exact hJ11 _ _ ⟨_,_,_,_,_,_,_,_,_,_,rfl,rfl,(qz.mono tl1),(qt.mono tl1),(hS.pick (A:=[_,_]) [1,0] rfl)⟩
  replace hS:=hS.voidItem
  replace hS:=hS.voidItem
  obtain rfl:=some_inj h
  exact hJ11 _ _ ⟨_,_,_,_,_,_,_,_,_,_,rfl,rfl,(qt.mono tl1),(qz.mono tl1),(hS.pick (A:=[_,_]) [1,0] rfl)⟩
 clear h11 hS
 rintro s w ⟨a1,m2,c3,t3,it4,a6,m7,c8,t4,it9,rfl,rfl,e5,e10,hS⟩
 have h:=c11
 clear c11
 try dsimp only
 obtain ⟨t5,ht5,h⟩:=bnd h
 obtain rfl:=lenE ht5 ((e5.mono (incl_cons mp0 tl2)).now (fun _ h=>h) hS)
 obtain ⟨t6,ht6,h⟩:=bnd h
 obtain ⟨rfl,kt6⟩:=mkE ht6
 refine mk_s (enc:=(Value.int .u32)) hS kt6 rfl ?_;clear hS kt6;intro r12 w hS
 obtain ⟨o13,h13,c13⟩:=bnd h
 refine cutM_i (fun s w=>∃ (t7:Int) (t8:List Int),(t7,t8)=o13∧s=(t7,())∧Ho w0 w ((sl (some ⟨r12,0,none⟩) (((i64.wrap ((m2:Int)+1))).toNat) (((i64.wrap ((m2:Int)+1))).toNat) (List.map (Value.int .u32) t8) N.t_uint32)::it4::L)) (fun J13 hJ13=>?_) ?_
 ·
  have h:=h13
  clear h13
  refine iter_sim (fun s w t=>∃ (t9:Int) (t10:Int) (t11:List Int),(t9,t10,t11)=t∧s=(t9,t10,())∧Ho w0 w ((sl (some ⟨r12,0,none⟩) (((i64.wrap ((m2:Int)+1))).toNat) (((i64.wrap ((m2:Int)+1))).toNat) (List.map (Value.int .u32) t11) N.t_uint32)::it4::it9::L)) ?_ h ⟨_,_,_,rfl,rfl,hS⟩
  clear h hS
  rintro s w t X q ⟨t9,t10,t11,rfl,rfl,hS⟩ h hX hO
  unfold T_bn_add_b2 at h
  try dsimp only
  obtain ⟨t12,ht12,h⟩:=bnd h
  obtain rfl:=lenE ht12 ((e5.mono (incl_cons mp1 tl3)).now (fun _ h=>h) hS)
  refine cond_s h ?_ ?_<;>intro hc h
  ·
   obtain ⟨t13,ht13,h⟩:=bnd h
   obtain ⟨q14x,yc,q14r⟩:=atE ht13
   refine idx_s ((e5.mono (incl_cons mp1 tl3)).now (fun _ h=>h) hS) q14x yc q14r ?_;intro b15 hb15
   refine ⟨_,rd_get ((e5.mono (incl_cons mp1 tl3)).now (fun _ h=>h) hS) hb15 q14x,?_⟩
   obtain ⟨t14,ht14,h⟩:=bnd h
   obtain rfl:=lenE ht14 ((e10.mono (incl_cons mp2 tl3)).now (fun _ h=>h) hS)
   obtain ⟨o16,h16,c16⟩:=bnd h
   refine cutM_i (fun s w=>∃ (t15:Int),t15=o16∧s=(t15,())∧Ho w0 w ((sl (some ⟨r12,0,none⟩) (((i64.wrap ((m2:Int)+1))).toNat) (((i64.wrap ((m2:Int)+1))).toNat) (List.map (Value.int .u32) t11) N.t_uint32)::it4::it9::L)) (fun J16 hJ16=>?_) ?_
   ·
    have h:=h16
    clear h16
    refine cond_s h ?_ ?_<;>intro hc h
    ·
     obtain ⟨t16,ht16,h⟩:=bnd h
     obtain ⟨q17x,yz,q17r⟩:=atE ht16
     refine idx_s ((e10.mono (incl_cons mp2 tl3)).now (fun _ h=>h) hS) q17x yz q17r ?_;intro b18 hb18
     refine ⟨_,rd_get ((e10.mono (incl_cons mp2 tl3)).now (fun _ h=>h) hS) hb18 q17x,?_⟩
     exact hJ16 _ _ ⟨_,some_inj h,rfl,hS⟩
    exact hJ16 _ _ ⟨_,some_inj h,rfl,hS⟩
   clear h16 hS
   rintro s w ⟨t15,rfl,rfl,hS⟩
   have h:=c16
   clear c16
   try dsimp only
   obtain ⟨t17,ht17,h⟩:=bnd h
   obtain ⟨q19x,yd,q19r⟩:=atE ht17
   refine idy_s ((Ent.sl mp0).now (fun _ h=>h) hS) q19x yd q19r ?_
   obtain ⟨t18,ht18,h⟩:=bnd h
   obtain rfl:=some_inj ht18
   refine sto_s hS rfl q19r ?_;intro w hS
   refine ⟨by decide,?_⟩
   obtain rfl:=some_inj h
   exact hX _ rfl _ _ ⟨_,_,_,rfl,rfl,hS⟩
  obtain rfl:=some_inj h
  have h:=congrArg some (hO _ rfl)
  obtain rfl:=some_inj h
  exact hJ13 _ _ ⟨_,_,rfl,rfl,(hS.pick (A:=[_,_,_]) [0,0] rfl)⟩
 clear h13 hS
 rintro s w ⟨t7,t8,rfl,rfl,hS⟩
 have h:=c13
 clear c13
 try dsimp only
 obtain ⟨t19,ht19,h⟩:=bnd h
 obtain rfl:=lenE ht19 ((e5.mono (incl_cons mp1 tl2)).now (fun _ h=>h) hS)
 obtain ⟨t20,ht20,h⟩:=bnd h
 obtain ⟨q21x,ye,q21r⟩:=atE ht20
 refine idy_s ((Ent.sl mp0).now (fun _ h=>h) hS) q21x ye q21r ?_
 obtain ⟨t21,ht21,h⟩:=bnd h
 obtain rfl:=some_inj ht21
 refine sto_s hS rfl q21r ?_;intro w hS
 obtain ⟨t22,ht22,h⟩:=bnd h
 refine wk_bn_trim H hS (Ent.sl mp0) ht22 ?_;rintro w hS
 refine ⟨_,_,_,rfl,?_⟩
 obtain ⟨t23,ht23,h⟩:=bnd h
 obtain ⟨rfl,gl,gr,yn⟩:=subE ht23
 have gu:=((Ent.sl mp0).now (fun _ h=>h) hS).hiCap yn
 replace hS:=Ho.cut hS yn
 cases some_inj h
 exact hK _ _ _ _ (hS.pick (A:=[_,_]) [0] rfl)
theorem wk_bn_sub {q0 qh qk l0 q1 qs qx l1 u0} (hS:Ho w0 w L) (qt:EW L l0 q0 qh qk) (qz:EW L l1 q1 qs qx) (h:T_bn_sub l0 l1=some u0) (hK:∀ (a0:OA) (n0 c0:Nat) (w1:World),Ho w0 w1 ((sl a0 n0 c0 (List.map (Value.int .u32) u0) N.t_uint32)::L)→K (.slice a0 n0 c0) w1):CallsX P N.f_bn_sub #[.slice q0 qh qk,.slice q1 qs qx] w K:=by
 refine H.bn_sub q0 qh qk q1 qs qx w _ ?_
 unfold S_bn_sub
 unfold T_bn_sub at h
 try dsimp only
 obtain ⟨t1,ht1,h⟩:=bnd h
 obtain rfl:=lenE ht1 (qt.now (fun _ h=>h) hS)
 obtain ⟨t2,ht2,h⟩:=bnd h
 obtain ⟨rfl,kt2⟩:=mkE ht2
 refine mk_s (enc:=(Value.int .u32)) hS kt2 rfl ?_;clear hS kt2;intro r1 w hS
 obtain ⟨o2,h2,c2⟩:=bnd h
 refine cutM_i (fun s w=>∃ (t3:List Int),t3=o2∧s=(())∧Ho w0 w ((sl (some ⟨r1,0,none⟩) (((qh:Int)).toNat) (((qh:Int)).toNat) (List.map (Value.int .u32) t3) N.t_uint32)::L)) (fun J2 hJ2=>?_) ?_
 ·
  have h:=h2
  clear h2
  refine iter_sim (fun s w t=>∃ (t4:Int) (t5:Int) (t6:List Int),(t4,t5,t6)=t∧s=(t4,t5,())∧Ho w0 w ((sl (some ⟨r1,0,none⟩) (((qh:Int)).toNat) (((qh:Int)).toNat) (List.map (Value.int .u32) t6) N.t_uint32)::L)) ?_ h ⟨_,_,_,rfl,rfl,hS⟩
  clear h hS
  rintro s w t X q ⟨t4,t5,t6,rfl,rfl,hS⟩ h hX hO
  unfold T_bn_sub_b2 at h
  try dsimp only
  obtain ⟨t7,ht7,h⟩:=bnd h
  obtain rfl:=lenE ht7 ((qt.mono tl1).now (fun _ h=>h) hS)
  refine cond_s h ?_ ?_<;>intro hc h
  ·
   obtain ⟨t8,ht8,h⟩:=bnd h
   obtain ⟨q3x,vo,q3r⟩:=atE ht8
   refine idx_s ((qt.mono tl1).now (fun _ h=>h) hS) q3x vo q3r ?_;intro b4 hb4
   refine ⟨_,rd_get ((qt.mono tl1).now (fun _ h=>h) hS) hb4 q3x,?_⟩
   obtain ⟨t9,ht9,h⟩:=bnd h
   obtain rfl:=lenE ht9 ((qz.mono tl1).now (fun _ h=>h) hS)
   obtain ⟨o5,h5,c5⟩:=bnd h
   refine cutM_i (fun s w=>∃ (t10:Int),t10=o5∧s=(t10,())∧Ho w0 w ((sl (some ⟨r1,0,none⟩) (((qh:Int)).toNat) (((qh:Int)).toNat) (List.map (Value.int .u32) t6) N.t_uint32)::L)) (fun J5 hJ5=>?_) ?_
   ·
    have h:=h5
    clear h5
    refine cond_s h ?_ ?_<;>intro hc h
    ·
     obtain ⟨t11,ht11,h⟩:=bnd h
     obtain ⟨q6x,vx,q6r⟩:=atE ht11
     refine idx_s ((qz.mono tl1).now (fun _ h=>h) hS) q6x vx q6r ?_;intro b7 hb7
     refine ⟨_,rd_get ((qz.mono tl1).now (fun _ h=>h) hS) hb7 q6x,?_⟩
     exact hJ5 _ _ ⟨_,some_inj h,rfl,hS⟩
    exact hJ5 _ _ ⟨_,some_inj h,rfl,hS⟩
   clear h5 hS
   rintro s w ⟨t10,rfl,rfl,hS⟩
   have h:=c5
   clear c5
   try dsimp only
   obtain ⟨t12,ht12,h⟩:=bnd h
   obtain ⟨q8x,vt,q8r⟩:=atE ht12
   refine idy_s ((Ent.sl mp0).now (fun _ h=>h) hS) q8x vt q8r ?_
   obtain ⟨t13,ht13,h⟩:=bnd h
   obtain rfl:=some_inj ht13
   refine sto_s hS rfl q8r ?_;intro w hS
   refine ⟨by decide,?_⟩
   obtain rfl:=some_inj h
   exact hX _ rfl _ _ ⟨_,_,_,rfl,rfl,hS⟩
  obtain rfl:=some_inj h
  have h:=congrArg some (hO _ rfl)
  exact hJ2 _ _ ⟨_,some_inj h,rfl,hS⟩
 clear h2 hS
 rintro s w ⟨t3,rfl,rfl,hS⟩
 have h:=c2
 clear c2
 try dsimp only
 obtain ⟨t14,ht14,h⟩:=bnd h
 refine wk_bn_trim H hS (Ent.sl mp0) ht14 ?_;rintro w hS
 refine ⟨_,_,_,rfl,?_⟩
 obtain ⟨t15,ht15,h⟩:=bnd h
 obtain ⟨rfl,ja,jb,vy⟩:=subE ht15
 have jc:=((Ent.sl mp0).now (fun _ h=>h) hS).hiCap vy
 replace hS:=Ho.cut hS vy
 cases some_inj h
 exact hK _ _ _ _ hS
theorem wk_bn_sum {q0 q1 qs qx l1 q2 q3 vo vu l3 u0 u1} (hS:Ho w0 w L) (qz:EW L l1 q1 qs qx) (yv:EW L l3 q3 vo vu) (h:T_bn_sum q0 l1 q2 l3=some (u0,u1)) (hK:∀ (a1:OA) (n1 c1:Nat) (w1:World),Ho w0 w1 ((sl a1 n1 c1 (List.map (Value.int .u32) u1) N.t_uint32)::L)→K (.tuple #[.bool u0,.slice a1 n1 c1]) w1):CallsX P N.f_bn_sum #[.bool q0,.slice q1 qs qx,.bool q2,.slice q3 vo vu] w K:=by
 refine H.bn_sum q0 q1 qs qx q2 q3 vo vu w _ ?_
 unfold S_bn_sum
 unfold T_bn_sum at h
 try dsimp only
 refine cond_s h ?_ ?_<;>intro hc h
 ·
  obtain ⟨t1,ht1,h⟩:=bnd h
  refine wk_bn_add H hS qz yv ht1 ?_;rintro a1 m1 c1 w hS
  refine ⟨_,_,_,rfl,?_⟩
  cases some_inj h
  exact hK _ _ _ _ hS
 obtain ⟨t2,ht2,h⟩:=bnd h
 refine wk_bn_cmp H hS qz yv ht2 ?_;rintro w hS
 refine ⟨_,rfl,?_⟩
 refine cond_s h ?_ ?_<;>intro hc h
 ·
  obtain ⟨t3,ht3,h⟩:=bnd h
  refine wk_bn_sub H hS qz yv ht3 ?_;rintro a2 m2 c2 w hS
  refine ⟨_,_,_,rfl,?_⟩
  cases some_inj h
  exact hK _ _ _ _ hS
 obtain ⟨t4,ht4,h⟩:=bnd h
 refine wk_bn_sub H hS yv qz ht4 ?_;rintro a3 m3 c3 w hS
 refine ⟨_,_,_,rfl,?_⟩
 cases some_inj h
 exact hK _ _ _ _ hS
theorem wk_bI_Sub_zzy {r_0 qq qr qi qj l1_1 r_2 vm vn vf vg l2_1 u0a u0b} (hS:Ho w0 w ((cl r_0 [.bool qq,.slice qr qi qj] N.t_bn_Int)::L)) (qu:EW L l1_1 qr qi qj) (eq2:Ent L (cl r_2 [.bool vm,.slice vn vf vg] N.t_bn_Int).A) (vh:EW L l2_1 vn vf vg) (h:T_bI_Sub qq l1_1 vm l2_1=some (u0a,u0b)) (hK:∀ (a0:OA) (n0 c0:Nat) (w1:World),Ho w0 w1 ((cl r_0 [.bool u0a,.slice a0 n0 c0] N.t_bn_Int)::(sl a0 n0 c0 (List.map (Value.int .u32) u0b) N.t_uint32)::L)→K (.pointer (some ⟨r_0,0,none⟩)) w1):CallsX P N.f_bI_Sub #[.pointer (some ⟨r_0,0,none⟩),.pointer (some ⟨r_0,0,none⟩),.pointer (some ⟨r_2,0,none⟩)] w K:=by
 refine H.bI_Sub (some ⟨r_0,0,none⟩) (some ⟨r_0,0,none⟩) (some ⟨r_2,0,none⟩) w _ ?_
 unfold S_bI_Sub
 unfold T_bI_Sub at h
 try dsimp only
 refine optM_s ?_
 refine ⟨_,hS.cel mp0 rfl,?_⟩
 refine optM_s ?_
 refine ⟨_,_,_,hS.cel mp0 rfl,?_⟩
 refine optM_s ?_
 refine ⟨_,(eq2.cel tl1 hS rfl),?_⟩
 refine optM_s ?_
 refine ⟨_,_,_,(eq2.cel tl1 hS rfl),?_⟩
 refine drM_s hS ?_;intro w hS
 obtain ⟨⟨t1,t2⟩,ho1,h⟩:=bnd h
 refine wk_bn_sum H hS (qu.mono tl1) (vh.mono tl1) ho1 ?_;clear hS ho1;rintro a1 m1 c1 w hS
 refine ⟨_,_,_,_,rfl,?_⟩
 refine drM_s hS ?_;intro w hS
 obtain ⟨t3,ht3,h⟩:=bnd h
 replace hS:=ro1 hS
 obtain rfl:=some_inj ht3
 refine give_c H hS (Ent.sl mp1) ?_;intro w hS
 refine ⟨_,rfl,?_⟩
 refine drM_s hS ?_;intro w hS
 cases some_inj h
 exact hK _ _ _ _ hS
theorem wk_bI_Sign_x {r_0 qe qf qb qd l0_1 u0} (hS:Ho w0 w L) (eq0:Ent L (cl r_0 [.bool qe,.slice qf qb qd] N.t_bn_Int).A) (qm:EW L l0_1 qf qb qd) (h:T_bI_Sign qe l0_1=some u0) (hK:∀ w1,Ho w0 w1 L→K (.int .i64 u0) w1):CallsX P N.f_bI_Sign #[.pointer (some ⟨r_0,0,none⟩)] w K:=by
 refine H.bI_Sign (some ⟨r_0,0,none⟩) w _ ?_
 unfold S_bI_Sign
 unfold T_bI_Sign at h
 try dsimp only
 refine optM_s ?_
 refine ⟨_,_,_,(eq0.cel (fun _ h=>h) hS rfl),?_⟩
 obtain ⟨t1,ht1,h⟩:=bnd h
 obtain rfl:=lenE ht1 (qm.now (fun _ h=>h) hS)
 refine cond_s h ?_ ?_<;>intro hc h
 ·
  cases some_inj h
  exact hK _ hS
 refine optM_s ?_
 refine ⟨_,(eq0.cel (fun _ h=>h) hS rfl),?_⟩
 refine cond_s h ?_ ?_<;>intro hc h
 ·
  cases some_inj h
  exact hK _ hS
 cases some_inj h
 exact hK _ hS
theorem wk_bn_bit {q0 qh qk l0 q1 u0} (hS:Ho w0 w L) (qt:EW L l0 q0 qh qk) (h:T_bn_bit l0 q1=some u0) (hK:∀ w1,Ho w0 w1 L→K (.int .u64 u0) w1):CallsX P N.f_bn_bit #[.slice q0 qh qk,.int .i64 q1] w K:=by
 refine H.bn_bit q0 qh qk q1 w _ ?_
 unfold S_bn_bit
 unfold T_bn_bit at h
 try dsimp only
 refine cond_s h ?_ ?_<;>intro hc h
 ·
  refine ⟨by decide,?_⟩
  obtain ⟨t1,ht1,h⟩:=bnd h
  obtain rfl:=lenE ht1 (qt.now (fun _ h=>h) hS)
  refine cond_s h ?_ ?_<;>intro hc h
  ·
   cases some_inj h
   exact hK _ hS
  refine ⟨by decide,?_⟩
  obtain ⟨t2,ht2,h⟩:=bnd h
  obtain ⟨q1x,qs,q1r⟩:=atE ht2
  refine idx_s (qt.now (fun _ h=>h) hS) q1x qs q1r ?_;intro b2 hb2
  refine ⟨_,rd_get (qt.now (fun _ h=>h) hS) hb2 q1x,?_⟩
  refine ⟨by decide,?_⟩
  obtain ⟨t3,ht3,h⟩:=bnd h
  refine ⟨nn_s ht3,?_⟩
  cases some_inj h
  exact hK _ hS
 cases some_inj h
 exact hK _ hS
theorem wk_bI_TrailingZeroBits_x {r_0 qe qf qb qd l0_1 u0} (hS:Ho w0 w L) (eq0:Ent L (cl r_0 [.bool qe,.slice qf qb qd] N.t_bn_Int).A) (qm:EW L l0_1 qf qb qd) (h:T_bI_TrailingZeroBits qe l0_1=some u0) (hK:∀ w1,Ho w0 w1 L→K (.int .u64 u0) w1):CallsX P N.f_bI_TrailingZeroBits #[.pointer (some ⟨r_0,0,none⟩)] w K:=by
 refine H.bI_TrailingZeroBits (some ⟨r_0,0,none⟩) w _ ?_
 unfold S_bI_TrailingZeroBits
 unfold T_bI_TrailingZeroBits at h
 try dsimp only
 refine optM_s ?_
 refine ⟨_,_,_,(eq0.cel (fun _ h=>h) hS rfl),?_⟩
 obtain ⟨t1,ht1,h⟩:=bnd h
 obtain rfl:=lenE ht1 (qm.now (fun _ h=>h) hS)
 refine cond_s h ?_ ?_<;>intro hc h
 ·
  cases some_inj h
  exact hK _ hS
 obtain ⟨o1,h1,c1⟩:=bnd h
 refine cutM_i (fun s w=>∃ (t2:Int),t2=o1∧s=(t2,())∧Ho w0 w L) (fun J1 hJ1=>?_) ?_
 ·
  have h:=h1
  clear h1
  refine iter_sim (fun s w t=>∃ (t3:Int),t3=t∧s=(t3,())∧Ho w0 w L) ?_ h ⟨_,rfl,rfl,hS⟩
  clear h hS
  rintro s w t X q ⟨t3,rfl,rfl,hS⟩ h hX hO
  unfold T_bI_TrailingZeroBits_b2 at h
  try dsimp only
  refine optM_s ?_
  refine ⟨_,_,_,(eq0.cel (fun _ h=>h) hS rfl),?_⟩
  obtain ⟨t4,ht4,h⟩:=bnd h
  refine wk_bn_bit H hS qm ht4 ?_;rintro w hS
  refine ⟨_,rfl,?_⟩
  refine cond_s h ?_ ?_<;>intro hc h
  ·
   obtain rfl:=some_inj h
   exact hX _ rfl _ _ ⟨_,rfl,rfl,hS⟩
  obtain rfl:=some_inj h
  have h:=congrArg some (hO _ rfl)
  exact hJ1 _ _ ⟨_,some_inj h,rfl,hS⟩
 clear h1 hS
 rintro s w ⟨t2,rfl,rfl,hS⟩
 have h:=c1
 clear c1
 try dsimp only
 cases some_inj h
 exact hK _ hS
theorem wk_bn_length {q0 qh qk l0 u0} (hS:Ho w0 w L) (qt:EW L l0 q0 qh qk) (h:T_bn_length l0=some u0) (hK:∀ w1,Ho w0 w1 L→K (.int .i64 u0) w1):CallsX P N.f_bn_length #[.slice q0 qh qk] w K:=by
 refine H.bn_length q0 qh qk w _ ?_
 unfold S_bn_length
 unfold T_bn_length at h
 try dsimp only
 obtain ⟨t1,ht1,h⟩:=bnd h
 obtain rfl:=lenE ht1 (qt.now (fun _ h=>h) hS)
 refine cond_s h ?_ ?_<;>intro hc h
 ·
  cases some_inj h
  exact hK _ hS
 obtain ⟨t2,ht2,h⟩:=bnd h
 obtain rfl:=lenE ht2 (qt.now (fun _ h=>h) hS)
 obtain ⟨t3,ht3,h⟩:=bnd h
 obtain ⟨q1x,qs,q1r⟩:=atE ht3
 refine idx_s (qt.now (fun _ h=>h) hS) q1x qs q1r ?_;intro b2 hb2
 refine ⟨_,rd_get (qt.now (fun _ h=>h) hS) hb2 q1x,?_⟩
 obtain ⟨o3,h3,c3⟩:=bnd h
 refine cutM_i (fun s w=>∃ (t4:Int),t4=o3∧s=(t4,())∧Ho w0 w L) (fun J3 hJ3=>?_) ?_
 ·
  have h:=h3
  clear h3
  refine iter_sim (fun s w t=>∃ (t5:Int) (t6:Int),(t5,t6)=t∧s=(t5,t6,())∧Ho w0 w L) ?_ h ⟨_,_,rfl,rfl,hS⟩
  clear h hS
  rintro s w t X q ⟨t5,t6,rfl,rfl,hS⟩ h hX hO
  unfold T_bn_length_b2 at h
  try dsimp only
  refine cond_s h ?_ ?_<;>intro hc h
  ·
   refine ⟨by decide,?_⟩
   obtain rfl:=some_inj h
   exact hX _ rfl _ _ ⟨_,_,rfl,rfl,hS⟩
  obtain rfl:=some_inj h
  have h:=congrArg some (hO _ rfl)
  exact hJ3 _ _ ⟨_,some_inj h,rfl,hS⟩
 clear h3 hS
 rintro s w ⟨t4,rfl,rfl,hS⟩
 have h:=c3
 clear c3
 try dsimp only
 obtain ⟨t7,ht7,h⟩:=bnd h
 obtain rfl:=lenE ht7 (qt.now (fun _ h=>h) hS)
 cases some_inj h
 exact hK _ hS
theorem wk_bI_BitLen_x {r_0 qe qf qb qd l0_1 u0} (hS:Ho w0 w L) (eq0:Ent L (cl r_0 [.bool qe,.slice qf qb qd] N.t_bn_Int).A) (qm:EW L l0_1 qf qb qd) (h:T_bI_BitLen qe l0_1=some u0) (hK:∀ w1,Ho w0 w1 L→K (.int .i64 u0) w1):CallsX P N.f_bI_BitLen #[.pointer (some ⟨r_0,0,none⟩)] w K:=by
 refine H.bI_BitLen (some ⟨r_0,0,none⟩) w _ ?_
 unfold S_bI_BitLen
 unfold T_bI_BitLen at h
 try dsimp only
 refine optM_s ?_
 refine ⟨_,_,_,(eq0.cel (fun _ h=>h) hS rfl),?_⟩
 obtain ⟨t1,ht1,h⟩:=bnd h
 refine wk_bn_length H hS qm ht1 ?_;rintro w hS
 refine ⟨_,rfl,?_⟩
 cases some_inj h
 exact hK _ hS
theorem wk_bn_right {q0 qh qk l0 q1 u0} (hS:Ho w0 w L) (qt:EW L l0 q0 qh qk) (h:T_bn_right l0 q1=some u0) (hK:∀ (a0:OA) (n0 c0:Nat) (w1:World),Ho w0 w1 ((sl a0 n0 c0 (List.map (Value.int .u32) u0) N.t_uint32)::L)→K (.slice a0 n0 c0) w1):CallsX P N.f_bn_right #[.slice q0 qh qk,.int .u64 q1] w K:=by
 refine H.bn_right q0 qh qk q1 w _ ?_
 unfold S_bn_right
 unfold T_bn_right at h
 try dsimp only
 refine ⟨by decide,?_⟩
 refine ⟨by decide,?_⟩
 obtain ⟨t1,ht1,h⟩:=bnd h
 obtain rfl:=lenE ht1 (qt.now (fun _ h=>h) hS)
 refine cond_s h ?_ ?_<;>intro hc h
 ·
  replace hS:=hS.none (α:=Int) (enc:=(Value.int .u32)) (t:=N.t_uint32)
  cases some_inj h
  exact hK _ _ _ _ hS
 obtain ⟨t2,ht2,h⟩:=bnd h
 obtain rfl:=lenE ht2 (qt.now (fun _ h=>h) hS)
 obtain ⟨t3,ht3,h⟩:=bnd h
 obtain ⟨rfl,kt3⟩:=mkE ht3
 refine mk_s (enc:=(Value.int .u32)) hS kt3 rfl ?_;clear hS kt3;intro r1 w hS
 obtain ⟨o2,h2,c2⟩:=bnd h
 refine cutM_i (fun s w=>∃ (t4:List Int),t4=o2∧s=(())∧Ho w0 w ((sl (some ⟨r1,0,none⟩) (((i64.wrap ((qh:Int)-(i64.wrap (u64.wrap (q1.tdiv 32)))))).toNat) (((i64.wrap ((qh:Int)-(i64.wrap (u64.wrap (q1.tdiv 32)))))).toNat) (List.map (Value.int .u32) t4) N.t_uint32)::L)) (fun J2 hJ2=>?_) ?_
 ·
  have h:=h2
  clear h2
  refine iter_sim (fun s w t=>∃ (t5:Int) (t6:List Int),(t5,t6)=t∧s=(t5,())∧Ho w0 w ((sl (some ⟨r1,0,none⟩) (((i64.wrap ((qh:Int)-(i64.wrap (u64.wrap (q1.tdiv 32)))))).toNat) (((i64.wrap ((qh:Int)-(i64.wrap (u64.wrap (q1.tdiv 32)))))).toNat) (List.map (Value.int .u32) t6) N.t_uint32)::L)) ?_ h ⟨_,_,rfl,rfl,hS⟩
  clear h hS
  rintro s w t X q ⟨t5,t6,rfl,rfl,hS⟩ h hX hO
  unfold T_bn_right_b2 at h
  try dsimp only
  obtain ⟨t7,ht7,h⟩:=bnd h
  obtain rfl:=lenE ht7 ((Ent.sl mp0).now (fun _ h=>h) hS)
  refine cond_s h ?_ ?_<;>intro hc h
  ·
   obtain ⟨t8,ht8,h⟩:=bnd h
   obtain ⟨q3x,vo,q3r⟩:=atE ht8
   refine idx_s ((qt.mono tl1).now (fun _ h=>h) hS) q3x vo q3r ?_;intro b4 hb4
   refine ⟨_,rd_get ((qt.mono tl1).now (fun _ h=>h) hS) hb4 q3x,?_⟩
   obtain ⟨t9,ht9,h⟩:=bnd h
   obtain rfl:=lenE ht9 ((qt.mono tl1).now (fun _ h=>h) hS)
   obtain ⟨o5,h5,c5⟩:=bnd h
   refine cutM_i (fun s w=>∃ (t10:Int),t10=o5∧s=(t10,())∧Ho w0 w ((sl (some ⟨r1,0,none⟩) (((i64.wrap ((qh:Int)-(i64.wrap (u64.wrap (q1.tdiv 32)))))).toNat) (((i64.wrap ((qh:Int)-(i64.wrap (u64.wrap (q1.tdiv 32)))))).toNat) (List.map (Value.int .u32) t6) N.t_uint32)::L)) (fun J5 hJ5=>?_) ?_
   ·
    have h:=h5
    clear h5
    refine cond_s h ?_ ?_<;>intro hc h
    ·
     obtain ⟨t11,ht11,h⟩:=bnd h
     obtain ⟨q6x,vx,q6r⟩:=atE ht11
     refine idx_s ((qt.mono tl1).now (fun _ h=>h) hS) q6x vx q6r ?_;intro b7 hb7
     refine ⟨_,rd_get ((qt.mono tl1).now (fun _ h=>h) hS) hb7 q6x,?_⟩
     refine ⟨by decide,?_⟩
     exact hJ5 _ _ ⟨_,some_inj h,rfl,hS⟩
    exact hJ5 _ _ ⟨_,some_inj h,rfl,hS⟩
   clear h5 hS
   rintro s w ⟨t10,rfl,rfl,hS⟩
   have h:=c5
   clear c5
   try dsimp only
   obtain ⟨t14,ht14,h⟩:=bnd h
   refine ⟨nn_s ht14,?_⟩
   obtain ⟨t12,ht12,h⟩:=bnd h
   obtain ⟨q8x,vt,q8r⟩:=atE ht12
   refine idy_s ((Ent.sl mp0).now (fun _ h=>h) hS) q8x vt q8r ?_
   obtain ⟨t13,ht13,h⟩:=bnd h
   obtain rfl:=some_inj ht13
   refine sto_s hS rfl q8r ?_;intro w hS
   obtain rfl:=some_inj h
   exact hX _ rfl _ _ ⟨_,_,rfl,rfl,hS⟩
  obtain rfl:=some_inj h
  have h:=congrArg some (hO _ rfl)
  exact hJ2 _ _ ⟨_,some_inj h,rfl,hS⟩
 clear h2 hS
 rintro s w ⟨t4,rfl,rfl,hS⟩
 have h:=c2
 clear c2
 try dsimp only
 obtain ⟨t15,ht15,h⟩:=bnd h
 refine wk_bn_trim H hS (Ent.sl mp0) ht15 ?_;rintro w hS
 refine ⟨_,_,_,rfl,?_⟩
 obtain ⟨t16,ht16,h⟩:=bnd h
 obtain ⟨rfl,ja,jb,vy⟩:=subE ht16
 have jc:=((Ent.sl mp0).now (fun _ h=>h) hS).hiCap vy
 replace hS:=Ho.cut hS vy
 cases some_inj h
 exact hK _ _ _ _ hS
theorem wk_bI_Rsh_zx {r_0} {b_0 s_0:Value} {r_1 qq qr qi qj l1_1 q2 u0a u0b} (hS:Ho w0 w ((cl r_0 [b_0,s_0] N.t_bn_Int)::L)) (eq1:Ent L (cl r_1 [.bool qq,.slice qr qi qj] N.t_bn_Int).A) (qu:EW L l1_1 qr qi qj) (h:T_bI_Rsh qq l1_1 q2=some (u0a,u0b)) (hK:∀ (a0:OA) (n0 c0:Nat) (w1:World),Ho w0 w1 ((cl r_0 [.bool u0a,.slice a0 n0 c0] N.t_bn_Int)::(sl a0 n0 c0 (List.map (Value.int .u32) u0b) N.t_uint32)::L)→K (.pointer (some ⟨r_0,0,none⟩)) w1):CallsX P N.f_bI_Rsh #[.pointer (some ⟨r_0,0,none⟩),.pointer (some ⟨r_1,0,none⟩),.int .u64 q2] w K:=by
 refine H.bI_Rsh (some ⟨r_0,0,none⟩) (some ⟨r_1,0,none⟩) q2 w _ ?_
 unfold S_bI_Rsh
 unfold T_bI_Rsh at h
 try dsimp only
 refine optM_s ?_
 refine ⟨_,(eq1.cel tl1 hS rfl),?_⟩
 refine cond_s h ?_ ?_<;>intro hc h
 ·
  refine optM_s ?_
  refine ⟨_,_,_,(eq1.cel tl1 hS rfl),?_⟩
  obtain ⟨t1,ht1,h⟩:=bnd h
  obtain rfl:([1]:List Int)=t1:=some_inj ht1
  refine lit_s (ks:=[1]) (enc:=(Value.int .u32)) (m:=1) hS rfl rfl ?_;intro r1 w hS
  obtain ⟨t2,ht2,h⟩:=bnd h
  refine wk_bn_sub H hS (qu.mono tl2) (Ent.sl mp0) ht2 ?_;rintro a2 m2 c2 w hS
  refine ⟨_,_,_,rfl,?_⟩
  obtain ⟨t3,ht3,h⟩:=bnd h
  refine wk_bn_right H hS (Ent.sl mp0) ht3 ?_;rintro a3 m3 c3 w hS
  refine ⟨_,_,_,rfl,?_⟩
  obtain ⟨t4,ht4,h⟩:=bnd h
  obtain rfl:([1]:List Int)=t4:=some_inj ht4
  refine lit_s (ks:=[1]) (enc:=(Value.int .u32)) (m:=1) hS rfl rfl ?_;intro r4 w hS
  obtain ⟨t5,ht5,h⟩:=bnd h
  refine wk_bn_add H hS (Ent.sl mp1) (Ent.sl mp0) ht5 ?_;rintro a5 m5 c5 w hS
  refine ⟨_,_,_,rfl,?_⟩
  obtain ⟨t6,ht6,h⟩:=bnd h
  replace hS:=ro5 hS
  obtain rfl:=some_inj ht6
  refine give_c H hS (Ent.sl mp1) ?_;intro w hS
  refine ⟨_,rfl,?_⟩
  cases some_inj h
  exact hK _ _ _ _ (hS.pick (A:=[_,_,_,_,_,_]) [0,0] rfl)
 refine optM_s ?_
 refine ⟨_,_,_,(eq1.cel tl1 hS rfl),?_⟩
 obtain ⟨t7,ht7,h⟩:=bnd h
 refine wk_bn_right H hS (qu.mono tl1) ht7 ?_;rintro a6 m6 c6 w hS
 refine ⟨_,_,_,rfl,?_⟩
 obtain ⟨t8,ht8,h⟩:=bnd h
 replace hS:=ro1 hS
 obtain rfl:=some_inj ht8
 refine give_c H hS (Ent.sl mp1) ?_;intro w hS
 refine ⟨_,rfl,?_⟩
 cases some_inj h
 exact hK _ _ _ _ hS
theorem wk_bI_Rsh_zz {r_0 qq qr qi qj l1_1 q2 u0a u0b} (hS:Ho w0 w ((cl r_0 [.bool qq,.slice qr qi qj] N.t_bn_Int)::L)) (qu:EW L l1_1 qr qi qj) (h:T_bI_Rsh qq l1_1 q2=some (u0a,u0b)) (hK:∀ (a0:OA) (n0 c0:Nat) (w1:World),Ho w0 w1 ((cl r_0 [.bool u0a,.slice a0 n0 c0] N.t_bn_Int)::(sl a0 n0 c0 (List.map (Value.int .u32) u0b) N.t_uint32)::L)→K (.pointer (some ⟨r_0,0,none⟩)) w1):CallsX P N.f_bI_Rsh #[.pointer (some ⟨r_0,0,none⟩),.pointer (some ⟨r_0,0,none⟩),.int .u64 q2] w K:=by
 refine H.bI_Rsh (some ⟨r_0,0,none⟩) (some ⟨r_0,0,none⟩) q2 w _ ?_
 unfold S_bI_Rsh
 unfold T_bI_Rsh at h
 try dsimp only
 refine optM_s ?_
 refine ⟨_,hS.cel mp0 rfl,?_⟩
 refine cond_s h ?_ ?_<;>intro hc h
 ·
  refine optM_s ?_
  refine ⟨_,_,_,hS.cel mp0 rfl,?_⟩
  obtain ⟨t1,ht1,h⟩:=bnd h
  obtain rfl:([1]:List Int)=t1:=some_inj ht1
  refine lit_s (ks:=[1]) (enc:=(Value.int .u32)) (m:=1) hS rfl rfl ?_;intro r1 w hS
  obtain ⟨t2,ht2,h⟩:=bnd h
  refine wk_bn_sub H hS (qu.mono tl2) (Ent.sl mp0) ht2 ?_;rintro a2 m2 c2 w hS
  refine ⟨_,_,_,rfl,?_⟩
  obtain ⟨t3,ht3,h⟩:=bnd h
  refine wk_bn_right H hS (Ent.sl mp0) ht3 ?_;rintro a3 m3 c3 w hS
  refine ⟨_,_,_,rfl,?_⟩
  obtain ⟨t4,ht4,h⟩:=bnd h
  obtain rfl:([1]:List Int)=t4:=some_inj ht4
  refine lit_s (ks:=[1]) (enc:=(Value.int .u32)) (m:=1) hS rfl rfl ?_;intro r4 w hS
  obtain ⟨t5,ht5,h⟩:=bnd h
  refine wk_bn_add H hS (Ent.sl mp1) (Ent.sl mp0) ht5 ?_;rintro a5 m5 c5 w hS
  refine ⟨_,_,_,rfl,?_⟩
  obtain ⟨t6,ht6,h⟩:=bnd h
  replace hS:=ro5 hS
  obtain rfl:=some_inj ht6
  refine give_c H hS (Ent.sl mp1) ?_;intro w hS
  refine ⟨_,rfl,?_⟩
  cases some_inj h
  exact hK _ _ _ _ (hS.pick (A:=[_,_,_,_,_,_]) [0,0] rfl)
 refine optM_s ?_
 refine ⟨_,_,_,hS.cel mp0 rfl,?_⟩
 obtain ⟨t7,ht7,h⟩:=bnd h
 refine wk_bn_right H hS (qu.mono tl1) ht7 ?_;rintro a6 m6 c6 w hS
 refine ⟨_,_,_,rfl,?_⟩
 obtain ⟨t8,ht8,h⟩:=bnd h
 replace hS:=ro1 hS
 obtain rfl:=some_inj ht8
 refine give_c H hS (Ent.sl mp1) ?_;intro w hS
 refine ⟨_,rfl,?_⟩
 cases some_inj h
 exact hK _ _ _ _ hS
theorem wk_bI_SetInt64_z {r_0} {b_0 s_0:Value} {q1 u0a u0b} (hS:Ho w0 w ((cl r_0 [b_0,s_0] N.t_bn_Int)::L))  (h:T_bI_SetInt64 q1=some (u0a,u0b)) (hK:∀ (a0:OA) (n0 c0:Nat) (w1:World),Ho w0 w1 ((cl r_0 [.bool u0a,.slice a0 n0 c0] N.t_bn_Int)::(sl a0 n0 c0 (List.map (Value.int .u32) u0b) N.t_uint32)::L)→K (.pointer (some ⟨r_0,0,none⟩)) w1):CallsX P N.f_bI_SetInt64 #[.pointer (some ⟨r_0,0,none⟩),.int .i64 q1] w K:=by
 refine H.bI_SetInt64 (some ⟨r_0,0,none⟩) q1 w _ ?_
 unfold S_bI_SetInt64
 unfold T_bI_SetInt64 at h
 try dsimp only
 obtain ⟨o1,h1,c1⟩:=bnd h
 refine cutM_i (fun s w=>∃ (t1:Int),t1=o1∧s=(t1,())∧Ho w0 w ((cl r_0 [b_0,s_0] N.t_bn_Int)::L)) (fun J1 hJ1=>?_) ?_
 ·
  have h:=h1
  clear h1
  refine cond_s h ?_ ?_<;>intro hc h
  ·
   exact hJ1 _ _ ⟨_,some_inj h,rfl,hS⟩
  exact hJ1 _ _ ⟨_,some_inj h,rfl,hS⟩
 clear h1 hS
 rintro s w ⟨t1,rfl,rfl,hS⟩
 have h:=c1
 clear c1
 try dsimp only
 obtain ⟨t2,ht2,h⟩:=bnd h
 refine wk_bn_words H hS  ht2 ?_;rintro a2 m2 c2 w hS
 refine ⟨_,_,_,rfl,?_⟩
 obtain ⟨t3,ht3,h⟩:=bnd h
 replace hS:=ro1 hS
 obtain rfl:=some_inj ht3
 refine give_c H hS (Ent.sl mp1) ?_;intro w hS
 refine ⟨_,rfl,?_⟩
 cases some_inj h
 exact hK _ _ _ _ hS
theorem wk_bI_Add_zzy {r_0 qq qr qi qj l1_1 r_2 vm vn vf vg l2_1 u0a u0b} (hS:Ho w0 w ((cl r_0 [.bool qq,.slice qr qi qj] N.t_bn_Int)::L)) (qu:EW L l1_1 qr qi qj) (eq2:Ent L (cl r_2 [.bool vm,.slice vn vf vg] N.t_bn_Int).A) (vh:EW L l2_1 vn vf vg) (h:T_bI_Add qq l1_1 vm l2_1=some (u0a,u0b)) (hK:∀ (a0:OA) (n0 c0:Nat) (w1:World),Ho w0 w1 ((cl r_0 [.bool u0a,.slice a0 n0 c0] N.t_bn_Int)::(sl a0 n0 c0 (List.map (Value.int .u32) u0b) N.t_uint32)::L)→K (.pointer (some ⟨r_0,0,none⟩)) w1):CallsX P N.f_bI_Add #[.pointer (some ⟨r_0,0,none⟩),.pointer (some ⟨r_0,0,none⟩),.pointer (some ⟨r_2,0,none⟩)] w K:=by
 refine H.bI_Add (some ⟨r_0,0,none⟩) (some ⟨r_0,0,none⟩) (some ⟨r_2,0,none⟩) w _ ?_
 unfold S_bI_Add
 unfold T_bI_Add at h
 try dsimp only
 refine optM_s ?_
 refine ⟨_,hS.cel mp0 rfl,?_⟩
 refine optM_s ?_
 refine ⟨_,_,_,hS.cel mp0 rfl,?_⟩
 refine optM_s ?_
 refine ⟨_,(eq2.cel tl1 hS rfl),?_⟩
 refine optM_s ?_
 refine ⟨_,_,_,(eq2.cel tl1 hS rfl),?_⟩
 refine drM_s hS ?_;intro w hS
 obtain ⟨⟨t1,t2⟩,ho1,h⟩:=bnd h
 refine wk_bn_sum H hS (qu.mono tl1) (vh.mono tl1) ho1 ?_;clear hS ho1;rintro a1 m1 c1 w hS
 refine ⟨_,_,_,_,rfl,?_⟩
 refine drM_s hS ?_;intro w hS
 obtain ⟨t3,ht3,h⟩:=bnd h
 replace hS:=ro1 hS
 obtain rfl:=some_inj ht3
 refine give_c H hS (Ent.sl mp1) ?_;intro w hS
 refine ⟨_,rfl,?_⟩
 refine drM_s hS ?_;intro w hS
 cases some_inj h
 exact hK _ _ _ _ hS
theorem wk_bn_mul {q0 qh qk l0 q1 qs qx l1 u0} (hS:Ho w0 w L) (qt:EW L l0 q0 qh qk) (qz:EW L l1 q1 qs qx) (h:T_bn_mul l0 l1=some u0) (hK:∀ (a0:OA) (n0 c0:Nat) (w1:World),Ho w0 w1 ((sl a0 n0 c0 (List.map (Value.int .u32) u0) N.t_uint32)::L)→K (.slice a0 n0 c0) w1):CallsX P N.f_bn_mul #[.slice q0 qh qk,.slice q1 qs qx] w K:=by
 refine H.bn_mul q0 qh qk q1 qs qx w _ ?_
 unfold S_bn_mul
 unfold T_bn_mul at h
 try dsimp only
 obtain ⟨o1,h1,c1⟩:=bnd h
 refine cutM_i (fun s w=>∃ (t1:Bool),t1=o1∧s=(t1,())∧Ho w0 w L) (fun J1 hJ1=>?_) ?_
 ·
  have h:=h1
  clear h1
  obtain ⟨t2,ht2,h⟩:=bnd h
  obtain rfl:=lenE ht2 (qt.now (fun _ h=>h) hS)
  refine cond_s h ?_ ?_<;>intro hc h
  ·
   obtain ⟨t3,ht3,h⟩:=bnd h
   obtain rfl:=lenE ht3 (qz.now (fun _ h=>h) hS)
   exact hJ1 _ _ ⟨_,some_inj h,rfl,hS⟩
  exact hJ1 _ _ ⟨_,some_inj h,rfl,hS⟩
 clear h1 hS
 rintro s w ⟨t1,rfl,rfl,hS⟩
 have h:=c1
 clear c1
 try dsimp only
 refine cond_s h ?_ ?_<;>intro hc h
 ·
  replace hS:=hS.none (α:=Int) (enc:=(Value.int .u32)) (t:=N.t_uint32)
  cases some_inj h
  exact hK _ _ _ _ hS
 obtain ⟨t4,ht4,h⟩:=bnd h
 obtain rfl:=lenE ht4 (qt.now (fun _ h=>h) hS)
 obtain ⟨t5,ht5,h⟩:=bnd h
 obtain rfl:=lenE ht5 (qz.now (fun _ h=>h) hS)
 obtain ⟨t6,ht6,h⟩:=bnd h
 obtain ⟨rfl,kt6⟩:=mkE ht6
 refine mk_s (enc:=(Value.int .u32)) hS kt6 rfl ?_;clear hS kt6;intro r2 w hS
 obtain ⟨o3,h3,c3⟩:=bnd h
 refine cutM_i (fun s w=>∃ (t7:List Int),t7=o3∧s=(())∧Ho w0 w ((sl (some ⟨r2,0,none⟩) (((i64.wrap ((qh:Int)+(qs:Int)))).toNat) (((i64.wrap ((qh:Int)+(qs:Int)))).toNat) (List.map (Value.int .u32) t7) N.t_uint32)::L)) (fun J3 hJ3=>?_) ?_
 ·
  have h:=h3
  clear h3
  refine iter_sim (fun s w t=>∃ (t8:Int) (t9:List Int),(t8,t9)=t∧s=(t8,())∧Ho w0 w ((sl (some ⟨r2,0,none⟩) (((i64.wrap ((qh:Int)+(qs:Int)))).toNat) (((i64.wrap ((qh:Int)+(qs:Int)))).toNat) (List.map (Value.int .u32) t9) N.t_uint32)::L)) ?_ h ⟨_,_,rfl,rfl,hS⟩
  clear h hS
  rintro s w t X q ⟨t8,t9,rfl,rfl,hS⟩ h hX hO
  unfold T_bn_mul_b7 at h
  try dsimp only
  obtain ⟨t10,ht10,h⟩:=bnd h
  obtain rfl:=lenE ht10 ((qt.mono tl1).now (fun _ h=>h) hS)
  refine cond_s h ?_ ?_<;>intro hc h
  ·
   obtain ⟨o4,h4,c4⟩:=bnd h
   refine cutM_i (fun s w=>∃ (t11:Int) (t12:List Int),(t11,t12)=o4∧s=(t11,())∧Ho w0 w ((sl (some ⟨r2,0,none⟩) (((i64.wrap ((qh:Int)+(qs:Int)))).toNat) (((i64.wrap ((qh:Int)+(qs:Int)))).toNat) (List.map (Value.int .u32) t12) N.t_uint32)::L)) (fun J4 hJ4=>?_) ?_
   ·
    have h:=h4
    clear h4
    refine iter_sim (fun s w t=>∃ (t13:Int) (t14:Int) (t15:List Int),(t13,t14,t15)=t∧s=(t13,t14,())∧Ho w0 w ((sl (some ⟨r2,0,none⟩) (((i64.wrap ((qh:Int)+(qs:Int)))).toNat) (((i64.wrap ((qh:Int)+(qs:Int)))).toNat) (List.map (Value.int .u32) t15) N.t_uint32)::L)) ?_ h ⟨_,_,_,rfl,rfl,hS⟩
    clear h hS
    rintro s w t X q ⟨t13,t14,t15,rfl,rfl,hS⟩ h hX hO
    unfold T_bn_mul_b9 at h
    try dsimp only
    obtain ⟨t16,ht16,h⟩:=bnd h
    obtain rfl:=lenE ht16 ((qz.mono tl1).now (fun _ h=>h) hS)
    refine cond_s h ?_ ?_<;>intro hc h
    ·
     obtain ⟨t17,ht17,h⟩:=bnd h
     obtain ⟨q5x,vp,q5r⟩:=atE ht17
     refine idx_s ((qt.mono tl1).now (fun _ h=>h) hS) q5x vp q5r ?_;intro b6 hb6
     refine ⟨_,rd_get ((qt.mono tl1).now (fun _ h=>h) hS) hb6 q5x,?_⟩
     obtain ⟨t18,ht18,h⟩:=bnd h
     obtain ⟨q7x,vz,q7r⟩:=atE ht18
     refine idx_s ((qz.mono tl1).now (fun _ h=>h) hS) q7x vz q7r ?_;intro b8 hb8
     refine ⟨_,rd_get ((qz.mono tl1).now (fun _ h=>h) hS) hb8 q7x,?_⟩
     obtain ⟨t19,ht19,h⟩:=bnd h
     obtain ⟨q9x,yw,q9r⟩:=atE ht19
     refine idy_s ((Ent.sl mp0).now (fun _ h=>h) hS) q9x yw q9r ?_
     refine ⟨_,rd_get ((Ent.sl mp0).now (fun _ h=>h) hS) rfl q9x,?_⟩
     refine drM_s hS ?_;intro w hS
     obtain ⟨t20,ht20,h⟩:=bnd h
     obtain ⟨q11x,vw,q11r⟩:=atE ht20
     refine idy_s ((Ent.sl mp0).now (fun _ h=>h) hS) q11x vw q11r ?_
     obtain ⟨t21,ht21,h⟩:=bnd h
     obtain rfl:=some_inj ht21
     refine sto_s hS rfl q11r ?_;intro w hS
     refine ⟨by decide,?_⟩
     obtain rfl:=some_inj h
     exact hX _ rfl _ _ ⟨_,_,_,rfl,rfl,hS⟩
    obtain rfl:=some_inj h
    have h:=congrArg some (hO _ rfl)
    exact hJ4 _ _ ⟨_,_,some_inj h,rfl,hS⟩
   clear h4 hS
   rintro s w ⟨t11,t12,rfl,rfl,hS⟩
   have h:=c4
   clear c4
   try dsimp only
   obtain ⟨t22,ht22,h⟩:=bnd h
   obtain rfl:=lenE ht22 ((qz.mono tl1).now (fun _ h=>h) hS)
   obtain ⟨t23,ht23,h⟩:=bnd h
   obtain ⟨q13x,jd,q13r⟩:=atE ht23
   refine idy_s ((Ent.sl mp0).now (fun _ h=>h) hS) q13x jd q13r ?_
   obtain ⟨t24,ht24,h⟩:=bnd h
   obtain rfl:=some_inj ht24
   refine sto_s hS rfl q13r ?_;intro w hS
   obtain rfl:=some_inj h
   exact hX _ rfl _ _ ⟨_,_,rfl,rfl,hS⟩
  obtain rfl:=some_inj h
  have h:=congrArg some (hO _ rfl)
  exact hJ3 _ _ ⟨_,some_inj h,rfl,hS⟩
 clear h3 hS
 rintro s w ⟨t7,rfl,rfl,hS⟩
 have h:=c3
 clear c3
 try dsimp only
 obtain ⟨t25,ht25,h⟩:=bnd h
 refine wk_bn_trim H hS (Ent.sl mp0) ht25 ?_;rintro w hS
 refine ⟨_,_,_,rfl,?_⟩
 obtain ⟨t26,ht26,h⟩:=bnd h
 obtain ⟨rfl,gw,gy,yo⟩:=subE ht26
 have gz:=((Ent.sl mp0).now (fun _ h=>h) hS).hiCap yo
 replace hS:=Ho.cut hS yo
 cases some_inj h
 exact hK _ _ _ _ hS
theorem wk_bI_Mul_zxy {r_0} {b_0 s_0:Value} {r_1 qq qr qi qj l1_1 r_2 vm vn vf vg l2_1 u0a u0b} (hS:Ho w0 w ((cl r_0 [b_0,s_0] N.t_bn_Int)::L)) (eq1:Ent L (cl r_1 [.bool qq,.slice qr qi qj] N.t_bn_Int).A) (qu:EW L l1_1 qr qi qj) (eq2:Ent L (cl r_2 [.bool vm,.slice vn vf vg] N.t_bn_Int).A) (vh:EW L l2_1 vn vf vg) (h:T_bI_Mul qq l1_1 vm l2_1=some (u0a,u0b)) (hK:∀ (a0:OA) (n0 c0:Nat) (w1:World),Ho w0 w1 ((cl r_0 [.bool u0a,.slice a0 n0 c0] N.t_bn_Int)::(sl a0 n0 c0 (List.map (Value.int .u32) u0b) N.t_uint32)::L)→K (.pointer (some ⟨r_0,0,none⟩)) w1):CallsX P N.f_bI_Mul #[.pointer (some ⟨r_0,0,none⟩),.pointer (some ⟨r_1,0,none⟩),.pointer (some ⟨r_2,0,none⟩)] w K:=by
 refine H.bI_Mul (some ⟨r_0,0,none⟩) (some ⟨r_1,0,none⟩) (some ⟨r_2,0,none⟩) w _ ?_
 unfold S_bI_Mul
 unfold T_bI_Mul at h
 try dsimp only
 refine optM_s ?_
 refine ⟨_,(eq1.cel tl1 hS rfl),?_⟩
 refine optM_s ?_
 refine ⟨_,(eq2.cel tl1 hS rfl),?_⟩
 refine optM_s ?_
 refine ⟨_,_,_,(eq1.cel tl1 hS rfl),?_⟩
 refine optM_s ?_
 refine ⟨_,_,_,(eq2.cel tl1 hS rfl),?_⟩
 refine drM_s hS ?_;intro w hS
 obtain ⟨t1,ht1,h⟩:=bnd h
 refine wk_bn_mul H hS (qu.mono tl1) (vh.mono tl1) ht1 ?_;rintro a1 m1 c1 w hS
 refine ⟨_,_,_,rfl,?_⟩
 refine ⟨(eq2.cel tl2 hS rfl),?_⟩
 refine ⟨(eq1.cel tl2 hS rfl),?_⟩
 refine drM_s hS ?_;intro w hS
 obtain ⟨t2,ht2,h⟩:=bnd h
 replace hS:=ro1 hS
 obtain rfl:=some_inj ht2
 refine give_c H hS (Ent.sl mp1) ?_;intro w hS
 refine ⟨_,rfl,?_⟩
 refine drM_s hS ?_;intro w hS
 cases some_inj h
 exact hK _ _ _ _ hS
theorem wk_bn_plain {q0 qh qk l0 u0} (hS:Ho w0 w L) (qt:EW L l0 q0 qh qk) (h:T_bn_plain l0=some u0) (hK:∀ w1,Ho w0 w1 L→K (.int .u64 u0) w1):CallsX P N.f_bn_plain #[.slice q0 qh qk] w K:=by
 refine H.bn_plain q0 qh qk w _ ?_
 unfold S_bn_plain
 unfold T_bn_plain at h
 try dsimp only
 obtain ⟨t1,ht1,h⟩:=bnd h
 obtain rfl:=lenE ht1 (qt.now (fun _ h=>h) hS)
 obtain ⟨o1,h1,c1⟩:=bnd h
 refine cutM_i (fun s w=>∃ (t2:Int),t2=o1∧s=(t2,())∧Ho w0 w L) (fun J1 hJ1=>?_) ?_
 ·
  have h:=h1
  clear h1
  refine cond_s h ?_ ?_<;>intro hc h
  ·
   obtain ⟨t3,ht3,h⟩:=bnd h
   obtain ⟨q2x,vj,q2r⟩:=atE ht3
   refine idx_s (qt.now (fun _ h=>h) hS) q2x vj q2r ?_;intro b3 hb3
   refine ⟨_,rd_get (qt.now (fun _ h=>h) hS) hb3 q2x,?_⟩
   exact hJ1 _ _ ⟨_,some_inj h,rfl,hS⟩
  exact hJ1 _ _ ⟨_,some_inj h,rfl,hS⟩
 clear h1 hS
 rintro s w ⟨t2,rfl,rfl,hS⟩
 have h:=c1
 clear c1
 try dsimp only
 obtain ⟨t4,ht4,h⟩:=bnd h
 obtain rfl:=lenE ht4 (qt.now (fun _ h=>h) hS)
 obtain ⟨o4,h4,c4⟩:=bnd h
 refine cutM_i (fun s w=>∃ (t5:Int),t5=o4∧s=(t5,())∧Ho w0 w L) (fun J4 hJ4=>?_) ?_
 ·
  have h:=h4
  clear h4
  refine cond_s h ?_ ?_<;>intro hc h
  ·
   obtain ⟨t6,ht6,h⟩:=bnd h
   obtain ⟨q5x,vp,q5r⟩:=atE ht6
   refine idx_s (qt.now (fun _ h=>h) hS) q5x vp q5r ?_;intro b6 hb6
   refine ⟨_,rd_get (qt.now (fun _ h=>h) hS) hb6 q5x,?_⟩
   refine ⟨by decide,?_⟩
   exact hJ4 _ _ ⟨_,some_inj h,rfl,hS⟩
  exact hJ4 _ _ ⟨_,some_inj h,rfl,hS⟩
 clear h4 hS
 rintro s w ⟨t5,rfl,rfl,hS⟩
 have h:=c4
 clear c4
 try dsimp only
 cases some_inj h
 exact hK _ hS
theorem wk_bn_small {q0 qh qk l0 q1 u0 u1} (hS:Ho w0 w L) (qt:EW L l0 q0 qh qk) (h:T_bn_small l0 q1=some (u0,u1)) (hK:∀ (a0:OA) (n0 c0:Nat) (w1:World),Ho w0 w1 ((sl a0 n0 c0 (List.map (Value.int .u32) u0) N.t_uint32)::L)→K (.tuple #[.slice a0 n0 c0,.int .u32 u1]) w1):CallsX P N.f_bn_small #[.slice q0 qh qk,.int .u32 q1] w K:=by
 refine H.bn_small q0 qh qk q1 w _ ?_
 unfold S_bn_small
 unfold T_bn_small at h
 try dsimp only
 obtain ⟨t1,ht1,h⟩:=bnd h
 obtain rfl:=lenE ht1 (qt.now (fun _ h=>h) hS)
 obtain ⟨t2,ht2,h⟩:=bnd h
 obtain ⟨rfl,kt2⟩:=mkE ht2
 refine mk_s (enc:=(Value.int .u32)) hS kt2 rfl ?_;clear hS kt2;intro r1 w hS
 obtain ⟨t3,ht3,h⟩:=bnd h
 obtain rfl:=lenE ht3 ((qt.mono tl1).now (fun _ h=>h) hS)
 obtain ⟨o2,h2,c2⟩:=bnd h
 refine cutM_i (fun s w=>∃ (t4:Int) (t5:List Int),(t4,t5)=o2∧s=(t4,())∧Ho w0 w ((sl (some ⟨r1,0,none⟩) (((qh:Int)).toNat) (((qh:Int)).toNat) (List.map (Value.int .u32) t5) N.t_uint32)::L)) (fun J2 hJ2=>?_) ?_
 ·
  have h:=h2
  clear h2
  refine iter_sim (fun s w t=>∃ (t6:Int) (t7:Int) (t8:List Int),(t6,t7,t8)=t∧s=(t6,t7,())∧Ho w0 w ((sl (some ⟨r1,0,none⟩) (((qh:Int)).toNat) (((qh:Int)).toNat) (List.map (Value.int .u32) t8) N.t_uint32)::L)) ?_ h ⟨_,_,_,rfl,rfl,hS⟩
  clear h hS
  rintro s w t X q ⟨t6,t7,t8,rfl,rfl,hS⟩ h hX hO
  unfold T_bn_small_b2 at h
  try dsimp only
  refine cond_s h ?_ ?_<;>intro hc h
  ·
   refine ⟨by decide,?_⟩
   obtain ⟨t9,ht9,h⟩:=bnd h
   obtain ⟨q3x,vo,q3r⟩:=atE ht9
   refine idx_s ((qt.mono tl1).now (fun _ h=>h) hS) q3x vo q3r ?_;intro b4 hb4
   refine ⟨_,rd_get ((qt.mono tl1).now (fun _ h=>h) hS) hb4 q3x,?_⟩
   obtain ⟨t13,ht13,h⟩:=bnd h
   refine ⟨nz_s ht13,?_⟩
   obtain ⟨t10,ht10,h⟩:=bnd h
   obtain ⟨q5x,vp,q5r⟩:=atE ht10
   refine idy_s ((Ent.sl mp0).now (fun _ h=>h) hS) q5x vp q5r ?_
   obtain ⟨t11,ht11,h⟩:=bnd h
   obtain rfl:=some_inj ht11
   refine sto_s hS rfl q5r ?_;intro w hS
   obtain ⟨t12,ht12,h⟩:=bnd h
   refine ⟨nz_s ht12,?_⟩
   obtain rfl:=some_inj h
   exact hX _ rfl _ _ ⟨_,_,_,rfl,rfl,hS⟩
  obtain rfl:=some_inj h
  have h:=congrArg some (hO _ rfl)
  exact hJ2 _ _ ⟨_,_,some_inj h,rfl,hS⟩
 clear h2 hS
 rintro s w ⟨t4,t5,rfl,rfl,hS⟩
 have h:=c2
 clear c2
 try dsimp only
 obtain ⟨t14,ht14,h⟩:=bnd h
 refine wk_bn_trim H hS (Ent.sl mp0) ht14 ?_;rintro w hS
 refine ⟨_,_,_,rfl,?_⟩
 obtain ⟨t15,ht15,h⟩:=bnd h
 obtain ⟨rfl,za,zb,yp⟩:=subE ht15
 have zc:=((Ent.sl mp0).now (fun _ h=>h) hS).hiCap yp
 replace hS:=Ho.cut hS yp
 cases some_inj h
 exact hK _ _ _ _ hS
theorem wk_bn_div {q0 qh qk l0 q1 qs qx l1 u0 u1} (hS:Ho w0 w L) (qt:EW L l0 q0 qh qk) (qz:EW L l1 q1 qs qx) (h:T_bn_div l0 l1=some (u0,u1)) (hK:∀ (a0:OA) (n0 c0:Nat) (a1:OA) (n1 c1:Nat) (w1:World),Ho w0 w1 ((sl a0 n0 c0 (List.map (Value.int .u32) u0) N.t_uint32)::(sl a1 n1 c1 (List.map (Value.int .u32) u1) N.t_uint32)::L)→K (.tuple #[.slice a0 n0 c0,.slice a1 n1 c1]) w1):CallsX P N.f_bn_div #[.slice q0 qh qk,.slice q1 qs qx] w K:=by
 refine H.bn_div q0 qh qk q1 qs qx w _ ?_
 unfold S_bn_div
 unfold T_bn_div at h
 try dsimp only
 obtain ⟨t1,ht1,h⟩:=bnd h
 obtain rfl:=lenE ht1 (qz.now (fun _ h=>h) hS)
 refine cond_s h ?_ ?_<;>intro hc h
 ·
  replace hS:=hS.none (α:=Int) (enc:=(Value.int .u32)) (t:=N.t_uint32)
  replace hS:=hS.none (α:=Int) (enc:=(Value.int .u32)) (t:=N.t_uint32)
  cases some_inj h
  exact hK _ _ _ _ _ _ _ (hS.pick (A:=[_,_]) [1,0] rfl)
 obtain ⟨t2,ht2,h⟩:=bnd h
 refine wk_bn_cmp H hS qt qz ht2 ?_;rintro w hS
 refine ⟨_,rfl,?_⟩
 refine cond_s h ?_ ?_<;>intro hc h
 ·
  obtain ⟨t3,ht3,h⟩:=bnd h
  refine wk_bn_twin H hS qt ht3 ?_;rintro a1 m1 c1 w hS
  refine ⟨_,_,_,rfl,?_⟩
  replace hS:=hS.none (α:=Int) (enc:=(Value.int .u32)) (t:=N.t_uint32)
  cases some_inj h
  exact hK _ _ _ _ _ _ _ hS
 obtain ⟨t4,ht4,h⟩:=bnd h
 obtain rfl:=lenE ht4 (qt.now (fun _ h=>h) hS)
 refine cond_s h ?_ ?_<;>intro hc h
 ·
  obtain ⟨t5,ht5,h⟩:=bnd h
  refine wk_bn_plain H hS qt ht5 ?_;rintro w hS
  refine ⟨_,rfl,?_⟩
  obtain ⟨t6,ht6,h⟩:=bnd h
  refine wk_bn_plain H hS qz ht6 ?_;rintro w hS
  refine ⟨_,rfl,?_⟩
  obtain ⟨t10,ht10,h⟩:=bnd h
  refine ⟨nz_s ht10,?_⟩
  obtain ⟨t9,ht9,h⟩:=bnd h
  refine ⟨nz_s ht9,?_⟩
  refine drM_s hS ?_;intro w hS
  obtain ⟨t7,ht7,h⟩:=bnd h
  refine wk_bn_words H hS  ht7 ?_;rintro a2 m2 c2 w hS
  refine ⟨_,_,_,rfl,?_⟩
  refine drM_s hS ?_;intro w hS
  obtain ⟨t8,ht8,h⟩:=bnd h
  refine wk_bn_words H hS  ht8 ?_;rintro a3 m3 c3 w hS
  refine ⟨_,_,_,rfl,?_⟩
  refine drM_s hS ?_;intro w hS
  cases some_inj h
  exact hK _ _ _ _ _ _ _ (hS.pick (A:=[_,_]) [1,0] rfl)
 obtain ⟨t11,ht11,h⟩:=bnd h
 obtain rfl:=lenE ht11 (qz.now (fun _ h=>h) hS)
 refine cond_s h ?_ ?_<;>intro hc h
 ·
  obtain ⟨t12,ht12,h⟩:=bnd h
  obtain ⟨q4x,vq,q4r⟩:=atE ht12
  refine idx_s (qz.now (fun _ h=>h) hS) q4x vq q4r ?_;intro b5 hb5
  refine ⟨_,rd_get (qz.now (fun _ h=>h) hS) hb5 q4x,?_⟩
  obtain ⟨⟨t13,t14⟩,ho13,h⟩:=bnd h
  refine wk_bn_small H hS qt ho13 ?_;clear hS ho13;rintro a6 m6 c6 w hS
  refine ⟨_,_,_,_,rfl,?_⟩
  obtain ⟨t15,ht15,h⟩:=bnd h
  obtain rfl:([t14]:List Int)=t15:=some_inj ht15
  refine lit_s (ks:=[t14]) (enc:=(Value.int .u32)) (m:=1) hS rfl rfl ?_;intro r7 w hS
  obtain ⟨t16,ht16,h⟩:=bnd h
  refine wk_bn_trim H hS (Ent.sl mp0) ht16 ?_;rintro w hS
  refine ⟨_,_,_,rfl,?_⟩
  obtain ⟨t17,ht17,h⟩:=bnd h
  obtain ⟨rfl,zo,zp,jv⟩:=subE ht17
  have zq:=((Ent.sl mp0).now (fun _ h=>h) hS).hiCap jv
  replace hS:=Ho.cut hS jv
  cases some_inj h
  exact hK _ _ _ _ _ _ _ (hS.pick (A:=[_,_]) [1,0] rfl)
 obtain ⟨t18,ht18,h⟩:=bnd h
 refine wk_bn_length H hS qz ht18 ?_;rintro w hS
 refine ⟨_,rfl,?_⟩
 refine ⟨by decide,?_⟩
 obtain ⟨t19,ht19,h⟩:=bnd h
 refine wk_bn_left H hS qz ht19 ?_;rintro a10 m10 c10 w hS
 refine ⟨_,_,_,rfl,?_⟩
 obtain ⟨t20,ht20,h⟩:=bnd h
 obtain rfl:=lenE ht20 ((qt.mono tl1).now (fun _ h=>h) hS)
 obtain ⟨t21,ht21,h⟩:=bnd h
 obtain ⟨rfl,kt21⟩:=mkE ht21
 refine mk_s (enc:=(Value.int .u32)) hS kt21 rfl ?_;clear hS kt21;intro r11 w hS
 obtain ⟨t22,ht22,h⟩:=bnd h
 refine wk_bn_left H hS (qt.mono tl2) ht22 ?_;rintro a12 m12 c12 w hS
 refine ⟨_,_,_,rfl,?_⟩
 obtain ⟨t23,ht23,h⟩:=bnd h
 obtain rfl:=some_inj ht23
 replace hS:=ro1 hS
 refine cop_s hS ((Ent.sl mp1).now (fun _ h=>h) hS) (fun _=>rfl) ?_;intro w hS
 obtain ⟨t24,ht24,h⟩:=bnd h
 obtain rfl:=lenE ht24 ((Ent.sl mp2).now (fun _ h=>h) hS)
 obtain ⟨t25,ht25,h⟩:=bnd h
 obtain rfl:=lenE ht25 ((Ent.sl mp0).now (fun _ h=>h) hS)
 obtain ⟨t26,ht26,h⟩:=bnd h
 obtain ⟨rfl,kt26⟩:=mkE ht26
 refine mk_s (enc:=(Value.int .u32)) hS kt26 rfl ?_;clear hS kt26;intro r13 w hS
 obtain ⟨t27,ht27,h⟩:=bnd h
 obtain ⟨q14x,yc,q14r⟩:=atE ht27
 refine idx_s ((Ent.sl mp3).now (fun _ h=>h) hS) q14x yc q14r ?_;intro b15 hb15
 refine ⟨_,rd_get ((Ent.sl mp3).now (fun _ h=>h) hS) hb15 q14x,?_⟩
 obtain ⟨t28,ht28,h⟩:=bnd h
 obtain ⟨q16x,yf,q16r⟩:=atE ht28
 refine idx_s ((Ent.sl mp3).now (fun _ h=>h) hS) q16x yf q16r ?_;intro b17 hb17
 refine ⟨_,rd_get ((Ent.sl mp3).now (fun _ h=>h) hS) hb17 q16x,?_⟩
 refine drM_s hS ?_;intro w hS
 obtain ⟨o18,h18,c18⟩:=bnd h
 refine cutM_i (fun s w=>∃ (t29:List Int) (t30:List Int),(t29,t30)=o18∧s=(())∧Ho w0 w ((sl (some ⟨r13,0,none⟩) (((i64.wrap ((i64.wrap ((i64.wrap (((((i64.wrap ((qh:Int)+2))).toNat:Nat):Int)-(m10:Int)))-1))+1))).toNat) (((i64.wrap ((i64.wrap ((i64.wrap (((((i64.wrap ((qh:Int)+2))).toNat:Nat):Int)-(m10:Int)))-1))+1))).toNat) (List.map (Value.int .u32) t29) N.t_uint32)::(sl (some ⟨r11,0,none⟩) (((i64.wrap ((qh:Int)+2))).toNat) (((i64.wrap ((qh:Int)+2))).toNat) (List.map (Value.int .u32) t30) N.t_uint32)::L)) (fun J18 hJ18=>?_) ?_
 ·
  have h:=h18
  clear h18
  refine iter_sim (fun s w t=>∃ (t31:Int) (t32:List Int) (t33:List Int),(t31,t32,t33)=t∧s=(t31,())∧Ho w0 w ((sl (some ⟨r13,0,none⟩) (((i64.wrap ((i64.wrap ((i64.wrap (((((i64.wrap ((qh:Int)+2))).toNat:Nat):Int)-(m10:Int)))-1))+1))).toNat) (((i64.wrap ((i64.wrap ((i64.wrap (((((i64.wrap ((qh:Int)+2))).toNat:Nat):Int)-(m10:Int)))-1))+1))).toNat) (List.map (Value.int .u32) t32) N.t_uint32)::(sl (some ⟨r11,0,none⟩) (((i64.wrap ((qh:Int)+2))).toNat) (((i64.wrap ((qh:Int)+2))).toNat) (List.map (Value.int .u32) t33) N.t_uint32)::(sl a10 m10 c10 (List.map (Value.int .u32) t19) N.t_uint32)::L)) ?_ h ⟨_,_,_,rfl,rfl,(hS.pick (A:=[_,_,_,_]) [0,0,1] rfl)⟩
  clear h hS
  rintro s w t X q ⟨t31,t32,t33,rfl,rfl,hS⟩ h hX hO
  unfold T_bn_div_b17 at h
  try dsimp only
  refine cond_s h ?_ ?_<;>intro hc h
  ·
   obtain ⟨t34,ht34,h⟩:=bnd h
   obtain ⟨q19x,yd,q19r⟩:=atE ht34
   refine idy_s ((Ent.sl mp1).now (fun _ h=>h) hS) q19x yd q19r ?_
   refine ⟨_,rd_get ((Ent.sl mp1).now (fun _ h=>h) hS) rfl q19x,?_⟩
   refine ⟨by decide,?_⟩
   obtain ⟨t35,ht35,h⟩:=bnd h
   obtain ⟨q21x,ye,q21r⟩:=atE ht35
   refine idy_s ((Ent.sl mp1).now (fun _ h=>h) hS) q21x ye q21r ?_
   refine ⟨_,rd_get ((Ent.sl mp1).now (fun _ h=>h) hS) rfl q21x,?_⟩
   refine drM_s hS ?_;intro w hS
   obtain ⟨t71,ht71,h⟩:=bnd h
   refine ⟨nz_s ht71,?_⟩
   obtain ⟨t70,ht70,h⟩:=bnd h
   refine ⟨nz_s ht70,?_⟩
   refine drM_s hS ?_;intro w hS
   obtain ⟨o23,h23,c23⟩:=bnd h
   refine cutM_i (fun s w=>∃ (t36:Int),t36=o23∧s=(t36,())∧Ho w0 w ((sl (some ⟨r13,0,none⟩) (((i64.wrap ((i64.wrap ((i64.wrap (((((i64.wrap ((qh:Int)+2))).toNat:Nat):Int)-(m10:Int)))-1))+1))).toNat) (((i64.wrap ((i64.wrap ((i64.wrap (((((i64.wrap ((qh:Int)+2))).toNat:Nat):Int)-(m10:Int)))-1))+1))).toNat) (List.map (Value.int .u32) t32) N.t_uint32)::(sl (some ⟨r11,0,none⟩) (((i64.wrap ((qh:Int)+2))).toNat) (((i64.wrap ((qh:Int)+2))).toNat) (List.map (Value.int .u32) t33) N.t_uint32)::(sl a10 m10 c10 (List.map (Value.int .u32) t19) N.t_uint32)::L)) (fun J23 hJ23=>?_) ?_
   ·
    have h:=h23
    clear h23
    refine iter_sim (fun s w t=>∃ (t37:Int) (t38:Int),(t37,t38)=t∧s=(t37,t38,())∧Ho w0 w ((sl (some ⟨r13,0,none⟩) (((i64.wrap ((i64.wrap ((i64.wrap (((((i64.wrap ((qh:Int)+2))).toNat:Nat):Int)-(m10:Int)))-1))+1))).toNat) (((i64.wrap ((i64.wrap ((i64.wrap (((((i64.wrap ((qh:Int)+2))).toNat:Nat):Int)-(m10:Int)))-1))+1))).toNat) (List.map (Value.int .u32) t32) N.t_uint32)::(sl (some ⟨r11,0,none⟩) (((i64.wrap ((qh:Int)+2))).toNat) (((i64.wrap ((qh:Int)+2))).toNat) (List.map (Value.int .u32) t33) N.t_uint32)::(sl a10 m10 c10 (List.map (Value.int .u32) t19) N.t_uint32)::L)) ?_ h ⟨_,_,rfl,rfl,hS⟩
    clear h hS
    rintro s w t X q ⟨t37,t38,rfl,rfl,hS⟩ h hX hO
    unfold T_bn_div_b19 at h
    try dsimp only
    refine cond_s h ?_ ?_<;>intro hc h
    ·
     refine ⟨by decide,?_⟩
     obtain ⟨t39,ht39,h⟩:=bnd h
     obtain ⟨q24x,je,q24r⟩:=atE ht39
     refine idy_s ((Ent.sl mp1).now (fun _ h=>h) hS) q24x je q24r ?_
     refine ⟨_,rd_get ((Ent.sl mp1).now (fun _ h=>h) hS) rfl q24x,?_⟩
     refine cond_s h ?_ ?_<;>intro hc h
     ·
      refine cond_s h ?_ ?_<;>intro hc h
      ·
       obtain rfl:=some_inj h
       have h:=congrArg some (hO _ rfl)
       exact hJ23 _ _ ⟨_,some_inj h,rfl,hS⟩
      obtain rfl:=some_inj h
      exact hX _ rfl _ _ ⟨_,_,rfl,rfl,hS⟩
     obtain rfl:=some_inj h
     have h:=congrArg some (hO _ rfl)
     exact hJ23 _ _ ⟨_,some_inj h,rfl,hS⟩
    refine cond_s h ?_ ?_<;>intro hc h
    ·
     obtain rfl:=some_inj h
     have h:=congrArg some (hO _ rfl)
     exact hJ23 _ _ ⟨_,some_inj h,rfl,hS⟩
    obtain rfl:=some_inj h
    exact hX _ rfl _ _ ⟨_,_,rfl,rfl,hS⟩
   clear h23 hS
   rintro s w ⟨t36,rfl,rfl,hS⟩
   have h:=c23
   clear c23
   try dsimp only
   obtain ⟨o26,h26,c26⟩:=bnd h
   refine cutM_i (fun s w=>∃ (t40:Int) (t41:Int) (t42:List Int),(t40,t41,t42)=o26∧s=(t40,t41,())∧Ho w0 w ((sl (some ⟨r13,0,none⟩) (((i64.wrap ((i64.wrap ((i64.wrap (((((i64.wrap ((qh:Int)+2))).toNat:Nat):Int)-(m10:Int)))-1))+1))).toNat) (((i64.wrap ((i64.wrap ((i64.wrap (((((i64.wrap ((qh:Int)+2))).toNat:Nat):Int)-(m10:Int)))-1))+1))).toNat) (List.map (Value.int .u32) t32) N.t_uint32)::(sl (some ⟨r11,0,none⟩) (((i64.wrap ((qh:Int)+2))).toNat) (((i64.wrap ((qh:Int)+2))).toNat) (List.map (Value.int .u32) t42) N.t_uint32)::(sl a10 m10 c10 (List.map (Value.int .u32) t19) N.t_uint32)::L)) (fun J26 hJ26=>?_) ?_
   ·
    have h:=h26
    clear h26
    refine iter_sim (fun s w t=>∃ (t43:Int) (t44:Int) (t45:Int) (t46:List Int),(t43,t44,t45,t46)=t∧s=(t43,t44,t45,())∧Ho w0 w ((sl (some ⟨r13,0,none⟩) (((i64.wrap ((i64.wrap ((i64.wrap (((((i64.wrap ((qh:Int)+2))).toNat:Nat):Int)-(m10:Int)))-1))+1))).toNat) (((i64.wrap ((i64.wrap ((i64.wrap (((((i64.wrap ((qh:Int)+2))).toNat:Nat):Int)-(m10:Int)))-1))+1))).toNat) (List.map (Value.int .u32) t32) N.t_uint32)::(sl (some ⟨r11,0,none⟩) (((i64.wrap ((qh:Int)+2))).toNat) (((i64.wrap ((qh:Int)+2))).toNat) (List.map (Value.int .u32) t46) N.t_uint32)::(sl a10 m10 c10 (List.map (Value.int .u32) t19) N.t_uint32)::L)) ?_ h ⟨_,_,_,_,rfl,rfl,hS⟩
    clear h hS
    rintro s w t X q ⟨t43,t44,t45,t46,rfl,rfl,hS⟩ h hX hO
    unfold T_bn_div_b21 at h
    try dsimp only
    refine cond_s h ?_ ?_<;>intro hc h
    ·
     obtain ⟨t47,ht47,h⟩:=bnd h
     obtain ⟨q27x,jf,q27r⟩:=atE ht47
     refine idx_s ((Ent.sl mp2).now (fun _ h=>h) hS) q27x jf q27r ?_;intro b28 hb28
     refine ⟨_,rd_get ((Ent.sl mp2).now (fun _ h=>h) hS) hb28 q27x,?_⟩
     obtain ⟨t48,ht48,h⟩:=bnd h
     obtain ⟨q29x,jg,q29r⟩:=atE ht48
     refine idy_s ((Ent.sl mp1).now (fun _ h=>h) hS) q29x jg q29r ?_
     refine ⟨_,rd_get ((Ent.sl mp1).now (fun _ h=>h) hS) rfl q29x,?_⟩
     obtain ⟨t49,ht49,h⟩:=bnd h
     obtain ⟨q31x,jh,q31r⟩:=atE ht49
     refine idy_s ((Ent.sl mp1).now (fun _ h=>h) hS) q31x jh q31r ?_
     replace hS:=ro1 hS
     obtain ⟨t50,ht50,h⟩:=bnd h
     obtain rfl:=some_inj ht50
     refine sto_s hS rfl q31r ?_;intro w hS
     refine ⟨by decide,?_⟩
     refine ⟨by decide,?_⟩
     obtain rfl:=some_inj h
     exact hX _ rfl _ _ ⟨_,_,_,_,rfl,rfl,(hS.pick (A:=[_,_,_]) [1,0,0] rfl)⟩
    obtain rfl:=some_inj h
    have h:=congrArg some (hO _ rfl)
    exact hJ26 _ _ ⟨_,_,_,some_inj h,rfl,hS⟩
   clear h26 hS
   rintro s w ⟨t40,t41,t42,rfl,rfl,hS⟩
   have h:=c26
   clear c26
   try dsimp only
   obtain ⟨t51,ht51,h⟩:=bnd h
   obtain ⟨q33x,ji,q33r⟩:=atE ht51
   refine idy_s ((Ent.sl mp1).now (fun _ h=>h) hS) q33x ji q33r ?_
   refine ⟨_,rd_get ((Ent.sl mp1).now (fun _ h=>h) hS) rfl q33x,?_⟩
   obtain ⟨t52,ht52,h⟩:=bnd h
   obtain ⟨q35x,jk,q35r⟩:=atE ht52
   refine idy_s ((Ent.sl mp1).now (fun _ h=>h) hS) q35x jk q35r ?_
   replace hS:=ro1 hS
   obtain ⟨t53,ht53,h⟩:=bnd h
   obtain rfl:=some_inj ht53
   refine sto_s hS rfl q35r ?_;intro w hS
   refine ⟨by decide,?_⟩
   obtain ⟨o37,h37,c37⟩:=bnd h
   refine cutM_i (fun s w=>∃ (t54:Int) (t55:List Int),(t54,t55)=o37∧s=(t54,())∧Ho w0 w ((sl (some ⟨r11,0,none⟩) (((i64.wrap ((qh:Int)+2))).toNat) (((i64.wrap ((qh:Int)+2))).toNat) (List.map (Value.int .u32) t55) N.t_uint32)::(sl (some ⟨r13,0,none⟩) (((i64.wrap ((i64.wrap ((i64.wrap (((((i64.wrap ((qh:Int)+2))).toNat:Nat):Int)-(m10:Int)))-1))+1))).toNat) (((i64.wrap ((i64.wrap ((i64.wrap (((((i64.wrap ((qh:Int)+2))).toNat:Nat):Int)-(m10:Int)))-1))+1))).toNat) (List.map (Value.int .u32) t32) N.t_uint32)::(sl a10 m10 c10 (List.map (Value.int .u32) t19) N.t_uint32)::L)) (fun J37 hJ37=>?_) ?_
   ·
    have h:=h37
    clear h37
    refine cond_s h ?_ ?_<;>intro hc h
    ·
     obtain ⟨o38,h38,c38⟩:=bnd h
     refine cutM_i (fun s w=>∃ (t56:Int) (t57:List Int),(t56,t57)=o38∧s=(t56,())∧Ho w0 w ((sl (some ⟨r11,0,none⟩) (((i64.wrap ((qh:Int)+2))).toNat) (((i64.wrap ((qh:Int)+2))).toNat) (List.map (Value.int .u32) t57) N.t_uint32)::(sl (some ⟨r13,0,none⟩) (((i64.wrap ((i64.wrap ((i64.wrap (((((i64.wrap ((qh:Int)+2))).toNat:Nat):Int)-(m10:Int)))-1))+1))).toNat) (((i64.wrap ((i64.wrap ((i64.wrap (((((i64.wrap ((qh:Int)+2))).toNat:Nat):Int)-(m10:Int)))-1))+1))).toNat) (List.map (Value.int .u32) t32) N.t_uint32)::(sl a10 m10 c10 (List.map (Value.int .u32) t19) N.t_uint32)::L)) (fun J38 hJ38=>?_) ?_
     ·
      have h:=h38
      clear h38
      refine iter_sim (fun s w t=>∃ (t58:Int) (t59:Int) (t60:List Int),(t58,t59,t60)=t∧s=(t58,t59,())∧Ho w0 w ((sl (some ⟨r11,0,none⟩) (((i64.wrap ((qh:Int)+2))).toNat) (((i64.wrap ((qh:Int)+2))).toNat) (List.map (Value.int .u32) t60) N.t_uint32)::(sl (some ⟨r13,0,none⟩) (((i64.wrap ((i64.wrap ((i64.wrap (((((i64.wrap ((qh:Int)+2))).toNat:Nat):Int)-(m10:Int)))-1))+1))).toNat) (((i64.wrap ((i64.wrap ((i64.wrap (((((i64.wrap ((qh:Int)+2))).toNat:Nat):Int)-(m10:Int)))-1))+1))).toNat) (List.map (Value.int .u32) t32) N.t_uint32)::(sl a10 m10 c10 (List.map (Value.int .u32) t19) N.t_uint32)::L)) ?_ h ⟨_,_,_,rfl,rfl,hS⟩
      clear h hS
      rintro s w t X q ⟨t58,t59,t60,rfl,rfl,hS⟩ h hX hO
      unfold T_bn_div_b24 at h
      try dsimp only
      refine cond_s h ?_ ?_<;>intro hc h
      ·
       obtain ⟨t61,ht61,h⟩:=bnd h
       obtain ⟨q39x,jl,q39r⟩:=atE ht61
       refine idy_s ((Ent.sl mp0).now (fun _ h=>h) hS) q39x jl q39r ?_
       refine ⟨_,rd_get ((Ent.sl mp0).now (fun _ h=>h) hS) rfl q39x,?_⟩
       obtain ⟨t62,ht62,h⟩:=bnd h
       obtain ⟨q41x,jm,q41r⟩:=atE ht62
       refine idx_s ((Ent.sl mp2).now (fun _ h=>h) hS) q41x jm q41r ?_;intro b42 hb42
       refine ⟨_,rd_get ((Ent.sl mp2).now (fun _ h=>h) hS) hb42 q41x,?_⟩
       refine drM_s hS ?_;intro w hS
       obtain ⟨t63,ht63,h⟩:=bnd h
       obtain ⟨q43x,jn,q43r⟩:=atE ht63
       refine idy_s ((Ent.sl mp0).now (fun _ h=>h) hS) q43x jn q43r ?_
       obtain ⟨t64,ht64,h⟩:=bnd h
       obtain rfl:=some_inj ht64
       refine sto_s hS rfl q43r ?_;intro w hS
       refine ⟨by decide,?_⟩
       obtain rfl:=some_inj h
       exact hX _ rfl _ _ ⟨_,_,_,rfl,rfl,hS⟩
      obtain rfl:=some_inj h
      have h:=congrArg some (hO _ rfl)
      exact hJ38 _ _ ⟨_,_,some_inj h,rfl,hS⟩
     clear h38 hS
     rintro s w ⟨t56,t57,rfl,rfl,hS⟩
     have h:=c38
     clear c38
     try dsimp only
     obtain ⟨t65,ht65,h⟩:=bnd h
     obtain ⟨q45x,jo,q45r⟩:=atE ht65
     refine idy_s ((Ent.sl mp0).now (fun _ h=>h) hS) q45x jo q45r ?_
     refine ⟨_,rd_get ((Ent.sl mp0).now (fun _ h=>h) hS) rfl q45x,?_⟩
     obtain ⟨t66,ht66,h⟩:=bnd h
     obtain ⟨q47x,jp,q47r⟩:=atE ht66
     refine idy_s ((Ent.sl mp0).now (fun _ h=>h) hS) q47x jp q47r ?_
     obtain ⟨t67,ht67,h⟩:=bnd h
     obtain rfl:=some_inj ht67
     refine sto_s hS rfl q47r ?_;intro w hS
     exact hJ37 _ _ ⟨_,_,some_inj h,rfl,hS⟩
    exact hJ37 _ _ ⟨_,_,some_inj h,rfl,hS⟩
   clear h37 hS
   rintro s w ⟨t54,t55,rfl,rfl,hS⟩
   have h:=c37
   clear c37
   try dsimp only
   obtain ⟨t68,ht68,h⟩:=bnd h
   obtain ⟨q49x,jq,q49r⟩:=atE ht68
   refine idy_s ((Ent.sl mp1).now (fun _ h=>h) hS) q49x jq q49r ?_
   replace hS:=ro1 hS
   obtain ⟨t69,ht69,h⟩:=bnd h
   obtain rfl:=some_inj ht69
   refine sto_s hS rfl q49r ?_;intro w hS
   obtain rfl:=some_inj h
   exact hX _ rfl _ _ ⟨_,_,_,rfl,rfl,hS⟩
  obtain rfl:=some_inj h
  have h:=congrArg some (hO _ rfl)
  obtain rfl:=some_inj h
  exact hJ18 _ _ ⟨_,_,rfl,rfl,(hS.pick (A:=[_,_,_]) [0,0] rfl)⟩
 clear h18 hS
 rintro s w ⟨t29,t30,rfl,rfl,hS⟩
 have h:=c18
 clear c18
 try dsimp only
 obtain ⟨t72,ht72,h⟩:=bnd h
 refine wk_bn_trim H hS (Ent.sl mp0) ht72 ?_;rintro w hS
 refine ⟨_,_,_,rfl,?_⟩
 obtain ⟨t73,ht73,h⟩:=bnd h
 obtain ⟨rfl,zd,ze,yq⟩:=subE ht73
 have zf:=((Ent.sl mp0).now (fun _ h=>h) hS).hiCap yq
 obtain ⟨t74,ht74,h⟩:=bnd h
 refine wk_bn_trim H hS (Ent.sl mp1) ht74 ?_;rintro w hS
 refine ⟨_,_,_,rfl,?_⟩
 obtain ⟨t75,ht75,h⟩:=bnd h
 obtain ⟨rfl,zg,jr,yr⟩:=subE ht75
 have zh:=((Ent.sl mp1).now (fun _ h=>h) hS).hiCap yr
 obtain ⟨t76,ht76,h⟩:=bnd h
 refine wk_bn_right H hS (Ent.upto (Ent.sl mp1) jr yr) ht76 ?_;rintro a55 m55 c55 w hS
 refine ⟨_,_,_,rfl,?_⟩
 replace hS:=ro1 hS
 replace hS:=Ho.cut hS yq
 cases some_inj h
 exact hK _ _ _ _ _ _ _ (hS.pick (A:=[_,_,_]) [0,0] rfl)
theorem wk_bI_Abs_zx {r_0} {b_0 s_0:Value} {r_1 qq qr qi qj l1_1 u0a u0b} (hS:Ho w0 w ((cl r_0 [b_0,s_0] N.t_bn_Int)::L)) (eq1:Ent L (cl r_1 [.bool qq,.slice qr qi qj] N.t_bn_Int).A) (qu:EW L l1_1 qr qi qj) (h:T_bI_Abs qq l1_1=some (u0a,u0b)) (hK:∀ (a0:OA) (n0 c0:Nat) (w1:World),Ho w0 w1 ((cl r_0 [.bool u0a,.slice a0 n0 c0] N.t_bn_Int)::(sl a0 n0 c0 (List.map (Value.int .u32) u0b) N.t_uint32)::L)→K (.pointer (some ⟨r_0,0,none⟩)) w1):CallsX P N.f_bI_Abs #[.pointer (some ⟨r_0,0,none⟩),.pointer (some ⟨r_1,0,none⟩)] w K:=by
 refine H.bI_Abs (some ⟨r_0,0,none⟩) (some ⟨r_1,0,none⟩) w _ ?_
 unfold S_bI_Abs
 unfold T_bI_Abs at h
 try dsimp only
 refine optM_s ?_
 refine ⟨_,_,_,(eq1.cel tl1 hS rfl),?_⟩
 obtain ⟨t1,ht1,h⟩:=bnd h
 refine wk_bn_twin H hS (qu.mono tl1) ht1 ?_;rintro a1 m1 c1 w hS
 refine ⟨_,_,_,rfl,?_⟩
 obtain ⟨t2,ht2,h⟩:=bnd h
 replace hS:=ro1 hS
 obtain rfl:=some_inj ht2
 refine give_c H hS (Ent.sl mp1) ?_;intro w hS
 refine ⟨_,rfl,?_⟩
 cases some_inj h
 exact hK _ _ _ _ hS
theorem wk_bI_Uint64_x {r_0 qe qf qb qd l0_1 u0} (hS:Ho w0 w L) (eq0:Ent L (cl r_0 [.bool qe,.slice qf qb qd] N.t_bn_Int).A) (qm:EW L l0_1 qf qb qd) (h:T_bI_Uint64 qe l0_1=some u0) (hK:∀ w1,Ho w0 w1 L→K (.int .u64 u0) w1):CallsX P N.f_bI_Uint64 #[.pointer (some ⟨r_0,0,none⟩)] w K:=by
 refine H.bI_Uint64 (some ⟨r_0,0,none⟩) w _ ?_
 unfold S_bI_Uint64
 unfold T_bI_Uint64 at h
 try dsimp only
 refine optM_s ?_
 refine ⟨_,_,_,(eq0.cel (fun _ h=>h) hS rfl),?_⟩
 obtain ⟨t1,ht1,h⟩:=bnd h
 obtain rfl:=lenE ht1 (qm.now (fun _ h=>h) hS)
 obtain ⟨o1,h1,c1⟩:=bnd h
 refine cutM_i (fun s w=>∃ (t2:Int),t2=o1∧s=(t2,())∧Ho w0 w L) (fun J1 hJ1=>?_) ?_
 ·
  have h:=h1
  clear h1
  refine cond_s h ?_ ?_<;>intro hc h
  ·
   refine optM_s ?_
   refine ⟨_,_,_,(eq0.cel (fun _ h=>h) hS rfl),?_⟩
   obtain ⟨t3,ht3,h⟩:=bnd h
   obtain ⟨q2x,vj,q2r⟩:=atE ht3
   refine idx_s (qm.now (fun _ h=>h) hS) q2x vj q2r ?_;intro b3 hb3
   refine ⟨_,rd_get (qm.now (fun _ h=>h) hS) hb3 q2x,?_⟩
   exact hJ1 _ _ ⟨_,some_inj h,rfl,hS⟩
  exact hJ1 _ _ ⟨_,some_inj h,rfl,hS⟩
 clear h1 hS
 rintro s w ⟨t2,rfl,rfl,hS⟩
 have h:=c1
 clear c1
 try dsimp only
 refine optM_s ?_
 refine ⟨_,_,_,(eq0.cel (fun _ h=>h) hS rfl),?_⟩
 obtain ⟨t4,ht4,h⟩:=bnd h
 obtain rfl:=lenE ht4 (qm.now (fun _ h=>h) hS)
 obtain ⟨o4,h4,c4⟩:=bnd h
 refine cutM_i (fun s w=>∃ (t5:Int),t5=o4∧s=(t5,())∧Ho w0 w L) (fun J4 hJ4=>?_) ?_
 ·
  have h:=h4
  clear h4
  refine cond_s h ?_ ?_<;>intro hc h
  ·
   refine optM_s ?_
   refine ⟨_,_,_,(eq0.cel (fun _ h=>h) hS rfl),?_⟩
   obtain ⟨t6,ht6,h⟩:=bnd h
   obtain ⟨q5x,vp,q5r⟩:=atE ht6
   refine idx_s (qm.now (fun _ h=>h) hS) q5x vp q5r ?_;intro b6 hb6
   refine ⟨_,rd_get (qm.now (fun _ h=>h) hS) hb6 q5x,?_⟩
   refine ⟨by decide,?_⟩
   exact hJ4 _ _ ⟨_,some_inj h,rfl,hS⟩
  exact hJ4 _ _ ⟨_,some_inj h,rfl,hS⟩
 clear h4 hS
 rintro s w ⟨t5,rfl,rfl,hS⟩
 have h:=c4
 clear c4
 try dsimp only
 cases some_inj h
 exact hK _ hS
theorem wk_bI_And_zxy {r_0} {b_0 s_0:Value} {r_1 qq qr qi qj l1_1 r_2 vm vn vf vg l2_1 u0a u0b} (hS:Ho w0 w ((cl r_0 [b_0,s_0] N.t_bn_Int)::L)) (eq1:Ent L (cl r_1 [.bool qq,.slice qr qi qj] N.t_bn_Int).A) (qu:EW L l1_1 qr qi qj) (eq2:Ent L (cl r_2 [.bool vm,.slice vn vf vg] N.t_bn_Int).A) (vh:EW L l2_1 vn vf vg) (h:T_bI_And qq l1_1 vm l2_1=some (u0a,u0b)) (hK:∀ (a0:OA) (n0 c0:Nat) (w1:World),Ho w0 w1 ((cl r_0 [.bool u0a,.slice a0 n0 c0] N.t_bn_Int)::(sl a0 n0 c0 (List.map (Value.int .u32) u0b) N.t_uint32)::L)→K (.pointer (some ⟨r_0,0,none⟩)) w1):CallsX P N.f_bI_And #[.pointer (some ⟨r_0,0,none⟩),.pointer (some ⟨r_1,0,none⟩),.pointer (some ⟨r_2,0,none⟩)] w K:=by
 refine H.bI_And (some ⟨r_0,0,none⟩) (some ⟨r_1,0,none⟩) (some ⟨r_2,0,none⟩) w _ ?_
 unfold S_bI_And
 unfold T_bI_And at h
 try dsimp only
 refine optM_s ?_
 refine ⟨_,_,_,(eq1.cel tl1 hS rfl),?_⟩
 obtain ⟨t1,ht1,h⟩:=bnd h
 obtain rfl:=lenE ht1 ((qu.mono tl1).now (fun _ h=>h) hS)
 refine optM_s ?_
 refine ⟨_,_,_,(eq2.cel tl1 hS rfl),?_⟩
 obtain ⟨t2,ht2,h⟩:=bnd h
 obtain rfl:=lenE ht2 ((vh.mono tl1).now (fun _ h=>h) hS)
 refine drM_s hS ?_;intro w hS
 obtain ⟨t3,ht3,h⟩:=bnd h
 refine wk_bI_low_x H hS (eq1.mono tl1) (qu.mono tl1) ht3 ?_;rintro a1 m1 c1 w hS
 refine ⟨_,_,_,rfl,?_⟩
 obtain ⟨t4,ht4,h⟩:=bnd h
 refine wk_bI_low_x H hS (eq2.mono tl2) (vh.mono tl2) ht4 ?_;rintro a2 m2 c2 w hS
 refine ⟨_,_,_,rfl,?_⟩
 obtain ⟨o3,h3,c3⟩:=bnd h
 refine cutM_i (fun s w=>∃ (t5:List Int),t5=o3∧s=(())∧Ho w0 w ((sl a1 m1 c1 (List.map (Value.int .u32) t5) N.t_uint32)::(cl r_0 [b_0,s_0] N.t_bn_Int)::L)) (fun J3 hJ3=>?_) ?_
 ·
  have h:=h3
  clear h3
  refine iter_sim (fun s w t=>∃ (t6:Int) (t7:List Int),(t6,t7)=t∧s=(t6,())∧Ho w0 w ((sl a2 m2 c2 (List.map (Value.int .u32) t4) N.t_uint32)::(sl a1 m1 c1 (List.map (Value.int .u32) t7) N.t_uint32)::(cl r_0 [b_0,s_0] N.t_bn_Int)::L)) ?_ h ⟨_,_,rfl,rfl,hS⟩
  clear h hS
  rintro s w t X q ⟨t6,t7,rfl,rfl,hS⟩ h hX hO
  unfold T_bI_And_b2 at h
  try dsimp only
  refine cond_s h ?_ ?_<;>intro hc h
  ·
   obtain ⟨t8,ht8,h⟩:=bnd h
   obtain ⟨q4x,vq,q4r⟩:=atE ht8
   refine idx_s ((Ent.sl mp1).now (fun _ h=>h) hS) q4x vq q4r ?_;intro b5 hb5
   refine ⟨_,rd_get ((Ent.sl mp1).now (fun _ h=>h) hS) hb5 q4x,?_⟩
   obtain ⟨t9,ht9,h⟩:=bnd h
   obtain ⟨q6x,vx,q6r⟩:=atE ht9
   refine idx_s ((Ent.sl mp0).now (fun _ h=>h) hS) q6x vx q6r ?_;intro b7 hb7
   refine ⟨_,rd_get ((Ent.sl mp0).now (fun _ h=>h) hS) hb7 q6x,?_⟩
   obtain ⟨t10,ht10,h⟩:=bnd h
   obtain ⟨q8x,vt,q8r⟩:=atE ht10
   refine idx_s ((Ent.sl mp1).now (fun _ h=>h) hS) q8x vt q8r ?_;intro b9 hb9
   refine drM_s hS ?_;intro w hS
   replace hS:=ro1 hS
   obtain ⟨t11,ht11,h⟩:=bnd h
   obtain rfl:=some_inj ht11
   refine sto_s hS hb9 q8r ?_;intro w hS
   refine drM_s hS ?_;intro w hS
   obtain rfl:=some_inj h
   exact hX _ rfl _ _ ⟨_,_,rfl,rfl,(hS.pick (A:=[_,_,_]) [1,0,0] rfl)⟩
  obtain rfl:=some_inj h
  have h:=congrArg some (hO _ rfl)
  obtain rfl:=some_inj h
  exact hJ3 _ _ ⟨_,rfl,rfl,(hS.pick (A:=[_,_,_]) [1,1] rfl)⟩
 clear h3 hS
 rintro s w ⟨t5,rfl,rfl,hS⟩
 have h:=c3
 clear c3
 try dsimp only
 replace hS:=ro1 hS
 obtain ⟨⟨t12,t13⟩,ho12,h⟩:=bnd h
 refine wk_bI_of_z H hS ho12 ?_;clear hS ho12;rintro a10 m10 c10 w hS
 refine ⟨_,rfl,?_⟩
 cases some_inj h
 exact hK _ _ _ _ hS
end Go.Eng
