/-
 Each function comes to what its function of plain Lean says, printed by a program of the session. No condition.
-/
import Derived.Test.YtgbilchfljlbeaaGreatDoorTpA
import Derived.Test.YtgbilchfljlbeaaGreatDoorSh
import Derived.Test.YtgbilchfljlbeaaGreatDoorBgC
set_option linter.all false
set_option maxRecDepth 100000
set_option maxHeartbeats 4000000
namespace Go.Eng
open Go
open Go.IntKind (i64 u64 u32 u8)
variable {N:Nums} {P:Program} (H:AllOk N P) {w0 w:World} {L:List It} {K:KV}
include H
theorem Aw5 {q0 qj qm l0 u0b} (hS:Ho w0 w L) (qw:EW L l0 q0 qj qm) (h:Al0 l0=some u0b) (hK:∀ w1,Ho w0 w1 L→K (.slice (An7 q0 0 qm 1) u0b.toNat qm) w1):Aa1 P N.Ii6 #[.slice q0 qj qm] w K:=by
 refine H.bn_trim q0 qj qm w _ ?_
 unfold Eq9
 unfold Al0 at h
 try dsimp only
 obtain ⟨t1,ht1,h⟩:=bnd h
 obtain rfl:=An6 ht1 (qw.now (fun _ h=>h) hS)
 obtain ⟨o1,h1,c1⟩:=bnd h
 refine Ab0 (fun s w=>∃ (t2:Int),t2=o1∧s=(t2,())∧Ho w0 w L) (fun J1 hJ1=>?_) ?_
 ·
  have h:=h1
  clear h1
  refine Ab6 (fun s w t=>∃ (t3:Int),t3=t∧s=(t3,())∧Ho w0 w L) ?_ h ⟨_,rfl,rfl,hS⟩
  clear h hS
  rintro s w t X q ⟨t3,rfl,rfl,hS⟩ h hX hO
  unfold Bb8 at h
  try dsimp only
  refine Aa2 h ?_ ?_<;>intro hc h
  ·
   obtain ⟨t4,ht4,h⟩:=bnd h
   obtain ⟨q2x,qy,q2r⟩:=atE ht4
   refine Ac7 (qw.now (fun _ h=>h) hS) q2x qy q2r ?_;intro b3 hb3
   refine ⟨_,Ab4 (qw.now (fun _ h=>h) hS) hb3 q2x,?_⟩
   refine Aa2 h ?_ ?_<;>intro hc h
   ·
    obtain rfl:=Aa0 h
    exact hX _ rfl _ _ ⟨_,rfl,rfl,hS⟩
   obtain rfl:=Aa0 h
   have h:=congrArg some (hO _ rfl)
   exact hJ1 _ _ ⟨_,Aa0 h,rfl,hS⟩
  obtain rfl:=Aa0 h
  have h:=congrArg some (hO _ rfl)
  exact hJ1 _ _ ⟨_,Aa0 h,rfl,hS⟩
 clear h1 hS
 rintro s w ⟨t2,rfl,rfl,hS⟩
 have h:=c1
 clear c1
 try dsimp only
 obtain ⟨t5,ht5,h⟩:=bnd h
 obtain ⟨rfl,zk,ge,gf⟩:=Ew0 ht5
 have gg:=(qw.now (fun _ h=>h) hS).hiCap gf
 refine ⟨ge,gg,?_⟩
 cases Aa0 h
 exact hK _ hS
theorem Dr8 {q0 qj qm l0 q1 u0} (hS:Ho w0 w L) (qw:EW L l0 q0 qj qm) (h:Bu4 l0 q1=some u0) (hK:∀ (a0:OA) (n0 c0:Nat) (w1:World),Ho w0 w1 ((sl a0 n0 c0 (List.map (Value.int .u32) u0) N.Il1)::L)→K (.slice a0 n0 c0) w1):Aa1 P N.Ii1 #[.slice q0 qj qm,.int .u64 q1] w K:=by
 refine H.bn_left q0 qj qm q1 w _ ?_
 unfold Eq0
 unfold Bu4 at h
 try dsimp only
 obtain ⟨t1,ht1,h⟩:=bnd h
 obtain rfl:=An6 ht1 (qw.now (fun _ h=>h) hS)
 refine Aa2 h ?_ ?_<;>intro hc h
 ·
  replace hS:=hS.none (α:=Int) (enc:=(Value.int .u32)) (t:=N.Il1)
  cases Aa0 h
  exact hK _ _ _ _ hS
 refine ⟨by decide,?_⟩
 refine ⟨by decide,?_⟩
 obtain ⟨t2,ht2,h⟩:=bnd h
 obtain rfl:=An6 ht2 (qw.now (fun _ h=>h) hS)
 obtain ⟨t3,ht3,h⟩:=bnd h
 obtain ⟨rfl,kt3⟩:=mkE ht3
 refine Ft4 (enc:=(Value.int .u32)) hS kt3 rfl ?_;clear hS kt3;intro r1 w hS
 obtain ⟨o2,h2,c2⟩:=bnd h
 refine Ab0 (fun s w=>∃ (t4:List Int),t4=o2∧s=(())∧Ho w0 w ((sl (some ⟨r1,0,none⟩) (((i64.wrap ((i64.wrap ((qj:Int)+(i64.wrap (u64.wrap (q1.tdiv 32)))))+1))).toNat) (((i64.wrap ((i64.wrap ((qj:Int)+(i64.wrap (u64.wrap (q1.tdiv 32)))))+1))).toNat) (List.map (Value.int .u32) t4) N.Il1)::L)) (fun J2 hJ2=>?_) ?_
 ·
  have h:=h2
  clear h2
  refine Ab6 (fun s w t=>∃ (t5:Int) (t6:List Int),(t5,t6)=t∧s=(t5,())∧Ho w0 w ((sl (some ⟨r1,0,none⟩) (((i64.wrap ((i64.wrap ((qj:Int)+(i64.wrap (u64.wrap (q1.tdiv 32)))))+1))).toNat) (((i64.wrap ((i64.wrap ((qj:Int)+(i64.wrap (u64.wrap (q1.tdiv 32)))))+1))).toNat) (List.map (Value.int .u32) t6) N.Il1)::L)) ?_ h ⟨_,_,rfl,rfl,hS⟩
  clear h hS
  rintro s w t X q ⟨t5,t6,rfl,rfl,hS⟩ h hX hO
  unfold Bc5 at h
  try dsimp only
  obtain ⟨t7,ht7,h⟩:=bnd h
  obtain rfl:=An6 ht7 ((qw.mono tl1).now (fun _ h=>h) hS)
  refine Aa2 h ?_ ?_<;>intro hc h
  ·
   obtain ⟨t8,ht8,h⟩:=bnd h
   obtain ⟨q3x,vm,q3r⟩:=atE ht8
   refine Ac7 ((qw.mono tl1).now (fun _ h=>h) hS) q3x vm q3r ?_;intro b4 hb4
   refine ⟨_,Ab4 ((qw.mono tl1).now (fun _ h=>h) hS) hb4 q3x,?_⟩
   obtain ⟨t15,ht15,h⟩:=bnd h
   refine ⟨Hh3 ht15,?_⟩
   obtain ⟨t9,ht9,h⟩:=bnd h
   obtain ⟨q5x,jc,q5r⟩:=atE ht9
   refine Bh6 ((Ent.sl mp0).now (fun _ h=>h) hS) q5x jc q5r ?_
   refine ⟨_,Ab4 ((Ent.sl mp0).now (fun _ h=>h) hS) rfl q5x,?_⟩
   obtain ⟨t10,ht10,h⟩:=bnd h
   obtain ⟨q7x,jr,q7r⟩:=atE ht10
   refine Bh6 ((Ent.sl mp0).now (fun _ h=>h) hS) q7x jr q7r ?_
   obtain ⟨t11,ht11,h⟩:=bnd h
   obtain rfl:=Aa0 ht11
   refine Bj9 hS rfl q7r ?_;intro w hS
   obtain ⟨t12,ht12,h⟩:=bnd h
   obtain ⟨q9x,gh,q9r⟩:=atE ht12
   refine Bh6 ((Ent.sl mp0).now (fun _ h=>h) hS) q9x gh q9r ?_
   refine ⟨_,Ab4 ((Ent.sl mp0).now (fun _ h=>h) hS) rfl q9x,?_⟩
   refine ⟨by decide,?_⟩
   obtain ⟨t13,ht13,h⟩:=bnd h
   obtain ⟨q11x,yq,q11r⟩:=atE ht13
   refine Bh6 ((Ent.sl mp0).now (fun _ h=>h) hS) q11x yq q11r ?_
   obtain ⟨t14,ht14,h⟩:=bnd h
   obtain rfl:=Aa0 ht14
   refine Bj9 hS rfl q11r ?_;intro w hS
   obtain rfl:=Aa0 h
   exact hX _ rfl _ _ ⟨_,_,rfl,rfl,hS⟩
  obtain rfl:=Aa0 h
  have h:=congrArg some (hO _ rfl)
  exact hJ2 _ _ ⟨_,Aa0 h,rfl,hS⟩
 clear h2 hS
 rintro s w ⟨t4,rfl,rfl,hS⟩
 have h:=c2
 clear c2
 try dsimp only
 obtain ⟨t16,ht16,h⟩:=bnd h
 refine Aw5 H hS (Ent.sl mp0) ht16 ?_;rintro w hS
 refine ⟨_,_,_,rfl,?_⟩
 obtain ⟨t17,ht17,h⟩:=bnd h
 obtain ⟨rfl,zq,zr,gi⟩:=Ew0 ht17
 have zs:=((Ent.sl mp0).now (fun _ h=>h) hS).hiCap gi
 replace hS:=Ho.cut hS gi
 cases Aa0 h
 exact hK _ _ _ _ hS
theorem Em0 {r_0} {b_0 s_0:Value} {r_1 ql qk qh qi l1_1 q2 u0a u0b} (hS:Ho w0 w ((cl r_0 [b_0,s_0] N.Ik4)::L)) (eq1:Ent L (cl r_1 [.bool ql,.slice qk qh qi] N.Ik4).A) (qv:EW L l1_1 qk qh qi) (h:Bw5 ql l1_1 q2=some (u0a,u0b)) (hK:∀ (a0:OA) (n0 c0:Nat) (w1:World),Ho w0 w1 ((cl r_0 [.bool u0a,.slice a0 n0 c0] N.Ik4)::(sl a0 n0 c0 (List.map (Value.int .u32) u0b) N.Il1)::L)→K (.pointer (some ⟨r_0,0,none⟩)) w1):Aa1 P N.Ik0 #[.pointer (some ⟨r_0,0,none⟩),.pointer (some ⟨r_1,0,none⟩),.int .u64 q2] w K:=by
 refine H.bI_Lsh (some ⟨r_0,0,none⟩) (some ⟨r_1,0,none⟩) q2 w _ ?_
 unfold Eb3
 unfold Bw5 at h
 try dsimp only
 refine Ad6 ?_
 refine ⟨_,(eq1.cel tl1 hS rfl),?_⟩
 refine Ad6 ?_
 refine ⟨_,_,_,(eq1.cel tl1 hS rfl),?_⟩
 refine Aa5 hS ?_;intro w hS
 obtain ⟨t1,ht1,h⟩:=bnd h
 refine Dr8 H hS (qv.mono tl1) ht1 ?_;rintro a1 m1 c1 w hS
 refine ⟨_,_,_,rfl,?_⟩
 refine ⟨(eq1.cel tl2 hS rfl),?_⟩
 refine Aa5 hS ?_;intro w hS
 obtain ⟨t2,ht2,h⟩:=bnd h
 replace hS:=ro1 hS
 obtain rfl:=Aa0 ht2
 refine Bd3 H hS (Ent.sl mp1) ?_;intro w hS
 refine ⟨_,rfl,?_⟩
 refine Aa5 hS ?_;intro w hS
 cases Aa0 h
 exact hK _ _ _ _ hS
theorem Et7 {r_0 ql qk qh qi l1_1 q2 u0a u0b} (hS:Ho w0 w ((cl r_0 [.bool ql,.slice qk qh qi] N.Ik4)::L)) (qv:EW L l1_1 qk qh qi) (h:Bw5 ql l1_1 q2=some (u0a,u0b)) (hK:∀ (a0:OA) (n0 c0:Nat) (w1:World),Ho w0 w1 ((cl r_0 [.bool u0a,.slice a0 n0 c0] N.Ik4)::(sl a0 n0 c0 (List.map (Value.int .u32) u0b) N.Il1)::L)→K (.pointer (some ⟨r_0,0,none⟩)) w1):Aa1 P N.Ik0 #[.pointer (some ⟨r_0,0,none⟩),.pointer (some ⟨r_0,0,none⟩),.int .u64 q2] w K:=by
 refine H.bI_Lsh (some ⟨r_0,0,none⟩) (some ⟨r_0,0,none⟩) q2 w _ ?_
 unfold Eb3
 unfold Bw5 at h
 try dsimp only
 refine Ad6 ?_
 refine ⟨_,hS.cel mp0 rfl,?_⟩
 refine Ad6 ?_
 refine ⟨_,_,_,hS.cel mp0 rfl,?_⟩
 refine Aa5 hS ?_;intro w hS
 obtain ⟨t1,ht1,h⟩:=bnd h
 refine Dr8 H hS (qv.mono tl1) ht1 ?_;rintro a1 m1 c1 w hS
 refine ⟨_,_,_,rfl,?_⟩
 refine ⟨(hS.cel mp1 rfl),?_⟩
 refine Aa5 hS ?_;intro w hS
 obtain ⟨t2,ht2,h⟩:=bnd h
 replace hS:=ro1 hS
 obtain rfl:=Aa0 ht2
 refine Bd3 H hS (Ent.sl mp1) ?_;intro w hS
 refine ⟨_,rfl,?_⟩
 refine Aa5 hS ?_;intro w hS
 cases Aa0 h
 exact hK _ _ _ _ hS
theorem Di1 {q0 u0} (hS:Ho w0 w L)  (h:Bf1 q0=some u0) (hK:∀ (a0:OA) (n0 c0:Nat) (w1:World),Ho w0 w1 ((sl a0 n0 c0 (List.map (Value.int .u32) u0) N.Il1)::L)→K (.slice a0 n0 c0) w1):Aa1 P N.Ih6 #[.int .u64 q0] w K:=by
 refine H.bn_words q0 w _ ?_
 unfold Dw4
 unfold Bf1 at h
 try dsimp only
 refine ⟨by decide,?_⟩
 obtain ⟨t1,ht1,h⟩:=bnd h
 obtain rfl:([(u32.wrap q0),(u32.wrap (q0.fdiv (2^(min (32:Int).toNat u64.bits))))]:List Int)=t1:=Aa0 ht1
 refine Ap0 (ks:=[(u32.wrap q0),(u32.wrap (q0.fdiv (2^(min (32:Int).toNat u64.bits))))]) (enc:=(Value.int .u32)) (m:=2) hS rfl rfl ?_;intro r1 w hS
 obtain ⟨t2,ht2,h⟩:=bnd h
 refine Aw5 H hS (Ent.sl mp0) ht2 ?_;rintro w hS
 refine ⟨_,_,_,rfl,?_⟩
 obtain ⟨t3,ht3,h⟩:=bnd h
 obtain ⟨rfl,bj,bl,zl⟩:=Ew0 ht3
 have bm:=((Ent.sl mp0).now (fun _ h=>h) hS).hiCap zl
 replace hS:=Ho.cut hS zl
 cases Aa0 h
 exact hK _ _ _ _ hS
theorem Cn5 {r_0} {b_0 s_0:Value} {q1 u0a u0b} (hS:Ho w0 w ((cl r_0 [b_0,s_0] N.Ik4)::L))  (h:Ba7 q1=some (u0a,u0b)) (hK:∀ (a0:OA) (n0 c0:Nat) (w1:World),Ho w0 w1 ((cl r_0 [.bool u0a,.slice a0 n0 c0] N.Ik4)::(sl a0 n0 c0 (List.map (Value.int .u32) u0b) N.Il1)::L)→K (.pointer (some ⟨r_0,0,none⟩)) w1):Aa1 P N.Hw5 #[.pointer (some ⟨r_0,0,none⟩),.int .u64 q1] w K:=by
 refine H.bI_SetUint64 (some ⟨r_0,0,none⟩) q1 w _ ?_
 unfold Ca2
 unfold Ba7 at h
 try dsimp only
 obtain ⟨t1,ht1,h⟩:=bnd h
 refine Di1 H hS  ht1 ?_;rintro a1 m1 c1 w hS
 refine ⟨_,_,_,rfl,?_⟩
 obtain ⟨t2,ht2,h⟩:=bnd h
 replace hS:=ro1 hS
 obtain rfl:=Aa0 ht2
 refine Bd3 H hS (Ent.sl mp1) ?_;intro w hS
 refine ⟨_,rfl,?_⟩
 cases Aa0 h
 exact hK _ _ _ _ hS
theorem Bn6 {r_0 qb qc qe qg l0_1 q1 u0} (hS:Ho w0 w L) (eq0:Ent L (cl r_0 [.bool qb,.slice qc qe qg] N.Ik4).A) (qn:EW L l0_1 qc qe qg) (h:Bj4 qb l0_1 q1=some u0) (hK:∀ (a0:OA) (n0 c0:Nat) (w1:World),Ho w0 w1 ((sl a0 n0 c0 (List.map (Value.int .u32) u0) N.Il1)::L)→K (.slice a0 n0 c0) w1):Aa1 P N.Ik6 #[.pointer (some ⟨r_0,0,none⟩),.int .i64 q1] w K:=by
 refine H.bI_low (some ⟨r_0,0,none⟩) q1 w _ ?_
 unfold Fe8
 unfold Bj4 at h
 try dsimp only
 obtain ⟨t1,ht1,h⟩:=bnd h
 obtain ⟨rfl,kt1⟩:=mkE ht1
 refine Ft4 (enc:=(Value.int .u32)) hS kt1 rfl ?_;clear hS kt1;intro r1 w hS
 refine Ad6 ?_
 refine ⟨_,_,_,(eq0.cel tl1 hS rfl),?_⟩
 obtain ⟨t2,ht2,h⟩:=bnd h
 obtain rfl:=Aa0 ht2
 refine Hr3 hS ((qn.mono tl1).now (fun _ h=>h) hS) (fun _=>rfl) ?_;intro w hS
 refine Ad6 ?_
 refine ⟨_,(eq0.cel tl1 hS rfl),?_⟩
 obtain ⟨o2,h2,c2⟩:=bnd h
 refine Ab0 (fun s w=>∃ (t3:List Int),t3=o2∧s=(())∧Ho w0 w ((sl (some ⟨r1,0,none⟩) ((q1).toNat) ((q1).toNat) (List.map (Value.int .u32) t3) N.Il1)::L)) (fun J2 hJ2=>?_) ?_
 ·
  have h:=h2
  clear h2
  refine Aa2 h ?_ ?_<;>intro hc h
  ·
   obtain ⟨o3,h3,c3⟩:=bnd h
   refine Ab0 (fun s w=>∃ (t4:List Int),t4=o3∧s=(())∧Ho w0 w ((sl (some ⟨r1,0,none⟩) ((q1).toNat) ((q1).toNat) (List.map (Value.int .u32) t4) N.Il1)::L)) (fun J3 hJ3=>?_) ?_
   ·
    have h:=h3
    clear h3
    refine Ab6 (fun s w t=>∃ (t5:Int) (t6:Int) (t7:List Int),(t5,t6,t7)=t∧s=(t5,t6,())∧Ho w0 w ((sl (some ⟨r1,0,none⟩) ((q1).toNat) ((q1).toNat) (List.map (Value.int .u32) t7) N.Il1)::L)) ?_ h ⟨_,_,_,rfl,rfl,hS⟩
    clear h hS
    rintro s w t X q ⟨t5,t6,t7,rfl,rfl,hS⟩ h hX hO
    unfold Dk9 at h
    try dsimp only
    refine Aa2 h ?_ ?_<;>intro hc h
    ·
     obtain ⟨t8,ht8,h⟩:=bnd h
     obtain ⟨q4x,yv,q4r⟩:=atE ht8
     refine Bh6 ((Ent.sl mp0).now (fun _ h=>h) hS) q4x yv q4r ?_
     refine ⟨_,Ab4 ((Ent.sl mp0).now (fun _ h=>h) hS) rfl q4x,?_⟩
     obtain ⟨t9,ht9,h⟩:=bnd h
     obtain ⟨q6x,yh,q6r⟩:=atE ht9
     refine Bh6 ((Ent.sl mp0).now (fun _ h=>h) hS) q6x yh q6r ?_
     obtain ⟨t10,ht10,h⟩:=bnd h
     obtain rfl:=Aa0 ht10
     refine Bj9 hS rfl q6r ?_;intro w hS
     refine ⟨by decide,?_⟩
     obtain rfl:=Aa0 h
     exact hX _ rfl _ _ ⟨_,_,_,rfl,rfl,hS⟩
    obtain rfl:=Aa0 h
    have h:=congrArg some (hO _ rfl)
    exact hJ3 _ _ ⟨_,Aa0 h,rfl,hS⟩
   clear h3 hS
   rintro s w ⟨t4,rfl,rfl,hS⟩
   have h:=c3
   clear c3
   try dsimp only
   exact hJ2 _ _ ⟨_,Aa0 h,rfl,hS⟩
  exact hJ2 _ _ ⟨_,Aa0 h,rfl,hS⟩
 clear h2 hS
 rintro s w ⟨t3,rfl,rfl,hS⟩
 have h:=c2
 clear c2
 try dsimp only
 cases Aa0 h
 exact hK _ _ _ _ hS
theorem Ds6 {r_0} {b_0 s_0:Value} {q1 qo qu l1 u0a u0b} (hS:Ho w0 w ((cl r_0 [b_0,s_0] N.Ik4)::(sl q1 qo qu (List.map (Value.int .u32) l1) N.Il1)::L))  (h:Cm7 l1=some (u0a,u0b)) (hK:∀ (a0:OA) (n0 c0:Nat) (w1:World),Ho w0 w1 ((cl r_0 [.bool u0a,.slice a0 n0 c0] N.Ik4)::(sl a0 n0 c0 (List.map (Value.int .u32) u0b) N.Il1)::L)→K (.pointer (some ⟨r_0,0,none⟩)) w1):Aa1 P N.Im0 #[.pointer (some ⟨r_0,0,none⟩),.slice q1 qo qu] w K:=by
 refine H.bI_of (some ⟨r_0,0,none⟩) q1 qo qu w _ ?_
 unfold Gh0
 unfold Cm7 at h
 try dsimp only
 obtain ⟨o1,h1,c1⟩:=bnd h
 refine Ab0 (fun s w=>∃ (t1:Bool),t1=o1∧s=(t1,())∧Ho w0 w ((cl r_0 [b_0,s_0] N.Ik4)::(sl q1 qo qu (List.map (Value.int .u32) l1) N.Il1)::L)) (fun J1 hJ1=>?_) ?_
 ·
  have h:=h1
  clear h1
  obtain ⟨t2,ht2,h⟩:=bnd h
  obtain rfl:=An6 ht2 ((Ent.sl mp1).now (fun _ h=>h) hS)
  refine Aa2 h ?_ ?_<;>intro hc h
  ·
   obtain ⟨t3,ht3,h⟩:=bnd h
   obtain rfl:=An6 ht3 ((Ent.sl mp1).now (fun _ h=>h) hS)
   obtain ⟨t4,ht4,h⟩:=bnd h
   obtain ⟨q2x,qy,q2r⟩:=atE ht4
   refine Ac7 ((Ent.sl mp1).now (fun _ h=>h) hS) q2x qy q2r ?_;intro b3 hb3
   refine ⟨_,Ab4 ((Ent.sl mp1).now (fun _ h=>h) hS) hb3 q2x,?_⟩
   refine ⟨by decide,?_⟩
   exact hJ1 _ _ ⟨_,Aa0 h,rfl,hS⟩
  exact hJ1 _ _ ⟨_,Aa0 h,rfl,hS⟩
 clear h1 hS
 rintro s w ⟨t1,rfl,rfl,hS⟩
 have h:=c1
 clear c1
 try dsimp only
 refine Aa2 h ?_ ?_<;>intro hc h
 ·
  obtain ⟨o4,h4,c4⟩:=bnd h
  refine Ab0 (fun s w=>∃ (t5:List Int),t5=o4∧s=(())∧Ho w0 w ((cl r_0 [b_0,s_0] N.Ik4)::(sl q1 qo qu (List.map (Value.int .u32) t5) N.Il1)::L)) (fun J4 hJ4=>?_) ?_
  ·
   have h:=h4
   clear h4
   refine Ab6 (fun s w t=>∃ (t6:Int) (t7:Int) (t8:List Int),(t6,t7,t8)=t∧s=(t6,t7,())∧Ho w0 w ((cl r_0 [b_0,s_0] N.Ik4)::(sl q1 qo qu (List.map (Value.int .u32) t8) N.Il1)::L)) ?_ h ⟨_,_,_,rfl,rfl,hS⟩
   clear h hS
   rintro s w t X q ⟨t6,t7,t8,rfl,rfl,hS⟩ h hX hO
   unfold Dt7 at h
   try dsimp only
   obtain ⟨t9,ht9,h⟩:=bnd h
   obtain rfl:=An6 ht9 ((Ent.sl mp1).now (fun _ h=>h) hS)
   refine Aa2 h ?_ ?_<;>intro hc h
   ·
    obtain ⟨t10,ht10,h⟩:=bnd h
    obtain ⟨q5x,jc,q5r⟩:=atE ht10
    refine Ac7 ((Ent.sl mp1).now (fun _ h=>h) hS) q5x jc q5r ?_;intro b6 hb6
    refine ⟨_,Ab4 ((Ent.sl mp1).now (fun _ h=>h) hS) hb6 q5x,?_⟩
    obtain ⟨t11,ht11,h⟩:=bnd h
    obtain ⟨q7x,jr,q7r⟩:=atE ht11
    refine Ac7 ((Ent.sl mp1).now (fun _ h=>h) hS) q7x jr q7r ?_;intro b8 hb8
    replace hS:=ro1 hS
    obtain ⟨t12,ht12,h⟩:=bnd h
    obtain rfl:=Aa0 ht12
    refine Bj9 hS hb8 q7r ?_;intro w hS
    refine ⟨by decide,?_⟩
    obtain rfl:=Aa0 h
    exact hX _ rfl _ _ ⟨_,_,_,rfl,rfl,(hS.pick (A:=[_,_]) [1,0] rfl)⟩
   obtain rfl:=Aa0 h
   have h:=congrArg some (hO _ rfl)
   exact hJ4 _ _ ⟨_,Aa0 h,rfl,hS⟩
  clear h4 hS
  rintro s w ⟨t5,rfl,rfl,hS⟩
  have h:=c4
  clear c4
  try dsimp only
  obtain ⟨t13,ht13,h⟩:=bnd h
  refine Aw5 H hS (Ent.sl mp1) ht13 ?_;rintro w hS
  refine ⟨_,_,_,rfl,?_⟩
  obtain ⟨t14,ht14,h⟩:=bnd h
  obtain ⟨rfl,zt,gl,js⟩:=Ew0 ht14
  have zu:=((Ent.sl mp1).now (fun _ h=>h) hS).hiCap js
  obtain ⟨t15,ht15,h⟩:=bnd h
  obtain rfl:=Aa0 ht15
  refine Bd3 H hS (Ent.upto (Ent.sl mp1) gl js) ?_;intro w hS
  refine ⟨_,rfl,?_⟩
  replace hS:=ro1 hS
  replace hS:=Ho.cut hS js
  cases Aa0 h
  exact hK _ _ _ _ (hS.pick (A:=[_,_]) [1,0] rfl)
 obtain ⟨t16,ht16,h⟩:=bnd h
 refine Aw5 H hS (Ent.sl mp1) ht16 ?_;rintro w hS
 refine ⟨_,_,_,rfl,?_⟩
 obtain ⟨t17,ht17,h⟩:=bnd h
 obtain ⟨rfl,zv,gm,jt⟩:=Ew0 ht17
 have zw:=((Ent.sl mp1).now (fun _ h=>h) hS).hiCap jt
 obtain ⟨t18,ht18,h⟩:=bnd h
 obtain rfl:=Aa0 ht18
 refine Bd3 H hS (Ent.upto (Ent.sl mp1) gm jt) ?_;intro w hS
 refine ⟨_,rfl,?_⟩
 replace hS:=ro1 hS
 replace hS:=Ho.cut hS jt
 cases Aa0 h
 exact hK _ _ _ _ (hS.pick (A:=[_,_]) [1,0] rfl)
theorem Eo5 {r_0 ql qk qh qi l1_1 r_2 yf yg vr vt l2_1 u0a u0b} (hS:Ho w0 w ((cl r_0 [.bool ql,.slice qk qh qi] N.Ik4)::L)) (qv:EW L l1_1 qk qh qi) (eq2:Ent L (cl r_2 [.bool yf,.slice yg vr vt] N.Ik4).A) (vy:EW L l2_1 yg vr vt) (h:Ee4 ql l1_1 yf l2_1=some (u0a,u0b)) (hK:∀ (a0:OA) (n0 c0:Nat) (w1:World),Ho w0 w1 ((cl r_0 [.bool u0a,.slice a0 n0 c0] N.Ik4)::(sl a0 n0 c0 (List.map (Value.int .u32) u0b) N.Il1)::L)→K (.pointer (some ⟨r_0,0,none⟩)) w1):Aa1 P N.Im1 #[.pointer (some ⟨r_0,0,none⟩),.pointer (some ⟨r_0,0,none⟩),.pointer (some ⟨r_2,0,none⟩)] w K:=by
 refine H.bI_Or (some ⟨r_0,0,none⟩) (some ⟨r_0,0,none⟩) (some ⟨r_2,0,none⟩) w _ ?_
 unfold Ga4
 unfold Ee4 at h
 try dsimp only
 refine Ad6 ?_
 refine ⟨_,_,_,hS.cel mp0 rfl,?_⟩
 obtain ⟨t1,ht1,h⟩:=bnd h
 obtain rfl:=An6 ht1 ((qv.mono tl1).now (fun _ h=>h) hS)
 refine Ad6 ?_
 refine ⟨_,_,_,(eq2.cel tl1 hS rfl),?_⟩
 obtain ⟨t2,ht2,h⟩:=bnd h
 obtain rfl:=An6 ht2 ((vy.mono tl1).now (fun _ h=>h) hS)
 refine Aa5 hS ?_;intro w hS
 obtain ⟨t3,ht3,h⟩:=bnd h
 refine Bn6 H hS (Ent.of mp0) (qv.mono tl1) ht3 ?_;rintro a1 m1 c1 w hS
 refine ⟨_,_,_,rfl,?_⟩
 obtain ⟨t4,ht4,h⟩:=bnd h
 refine Bn6 H hS (eq2.mono tl2) (vy.mono tl2) ht4 ?_;rintro a2 m2 c2 w hS
 refine ⟨_,_,_,rfl,?_⟩
 obtain ⟨o3,h3,c3⟩:=bnd h
 refine Ab0 (fun s w=>∃ (t5:List Int),t5=o3∧s=(())∧Ho w0 w ((sl a1 m1 c1 (List.map (Value.int .u32) t5) N.Il1)::(cl r_0 [.bool ql,.slice qk qh qi] N.Ik4)::L)) (fun J3 hJ3=>?_) ?_
 ·
  have h:=h3
  clear h3
  refine Ab6 (fun s w t=>∃ (t6:Int) (t7:List Int),(t6,t7)=t∧s=(t6,())∧Ho w0 w ((sl a2 m2 c2 (List.map (Value.int .u32) t4) N.Il1)::(sl a1 m1 c1 (List.map (Value.int .u32) t7) N.Il1)::(cl r_0 [.bool ql,.slice qk qh qi] N.Ik4)::L)) ?_ h ⟨_,_,rfl,rfl,hS⟩
  clear h hS
  rintro s w t X q ⟨t6,t7,rfl,rfl,hS⟩ h hX hO
  unfold Bl6 at h
  try dsimp only
  refine Aa2 h ?_ ?_<;>intro hc h
  ·
   obtain ⟨t8,ht8,h⟩:=bnd h
   obtain ⟨q4x,yv,q4r⟩:=atE ht8
   refine Ac7 ((Ent.sl mp1).now (fun _ h=>h) hS) q4x yv q4r ?_;intro b5 hb5
   refine ⟨_,Ab4 ((Ent.sl mp1).now (fun _ h=>h) hS) hb5 q4x,?_⟩
   obtain ⟨t9,ht9,h⟩:=bnd h
   obtain ⟨q6x,yh,q6r⟩:=atE ht9
   refine Ac7 ((Ent.sl mp0).now (fun _ h=>h) hS) q6x yh q6r ?_;intro b7 hb7
   refine ⟨_,Ab4 ((Ent.sl mp0).now (fun _ h=>h) hS) hb7 q6x,?_⟩
   obtain ⟨t10,ht10,h⟩:=bnd h
   obtain ⟨q8x,yj,q8r⟩:=atE ht10
   refine Ac7 ((Ent.sl mp1).now (fun _ h=>h) hS) q8x yj q8r ?_;intro b9 hb9
   refine Aa5 hS ?_;intro w hS
   replace hS:=ro1 hS
   obtain ⟨t11,ht11,h⟩:=bnd h
   obtain rfl:=Aa0 ht11
   refine Bj9 hS hb9 q8r ?_;intro w hS
   refine Aa5 hS ?_;intro w hS
   obtain rfl:=Aa0 h
   exact hX _ rfl _ _ ⟨_,_,rfl,rfl,(hS.pick (A:=[_,_,_]) [1,0,0] rfl)⟩
  obtain rfl:=Aa0 h
  have h:=congrArg some (hO _ rfl)
  obtain rfl:=Aa0 h
  exact hJ3 _ _ ⟨_,rfl,rfl,(hS.pick (A:=[_,_,_]) [1,1] rfl)⟩
 clear h3 hS
 rintro s w ⟨t5,rfl,rfl,hS⟩
 have h:=c3
 clear c3
 try dsimp only
 replace hS:=ro1 hS
 obtain ⟨⟨t12,t13⟩,ho12,h⟩:=bnd h
 refine Ds6 H hS ho12 ?_;clear hS ho12;rintro a10 m10 c10 w hS
 refine ⟨_,rfl,?_⟩
 cases Aa0 h
 exact hK _ _ _ _ hS
theorem Cn1 {q0 qj qm l0 u0} (hS:Ho w0 w L) (qw:EW L l0 q0 qj qm) (h:Bm6 l0=some u0) (hK:∀ (a0:OA) (n0 c0:Nat) (w1:World),Ho w0 w1 ((sl a0 n0 c0 (List.map (Value.int .u32) u0) N.Il1)::L)→K (.slice a0 n0 c0) w1):Aa1 P N.Ii2 #[.slice q0 qj qm] w K:=by
 refine H.bn_twin q0 qj qm w _ ?_
 unfold Eq6
 unfold Bm6 at h
 try dsimp only
 obtain ⟨t1,ht1,h⟩:=bnd h
 obtain ⟨rfl,kt1⟩:=Gh2 ht1
 replace hS:=hS.none (α:=Int) (enc:=(Value.int .u32)) (t:=N.Il1)
 refine Bx6 hS kt1 ((qw.mono tl1).now (fun _ h=>h) hS) (fun _=>rfl) rfl ?_;clear hS kt1;intro a1 c1 w hS
 cases Aa0 h
 exact hK _ _ _ _ hS
theorem Eu3 {r_0 ql qk qh qi l1_1 u0a u0b} (hS:Ho w0 w ((cl r_0 [.bool ql,.slice qk qh qi] N.Ik4)::L)) (qv:EW L l1_1 qk qh qi) (h:Cy7 ql l1_1=some (u0a,u0b)) (hK:∀ (a0:OA) (n0 c0:Nat) (w1:World),Ho w0 w1 ((cl r_0 [.bool u0a,.slice a0 n0 c0] N.Ik4)::(sl a0 n0 c0 (List.map (Value.int .u32) u0b) N.Il1)::L)→K (.pointer (some ⟨r_0,0,none⟩)) w1):Aa1 P N.Ij4 #[.pointer (some ⟨r_0,0,none⟩),.pointer (some ⟨r_0,0,none⟩)] w K:=by
 refine H.bI_Neg (some ⟨r_0,0,none⟩) (some ⟨r_0,0,none⟩) w _ ?_
 unfold Fg8
 unfold Cy7 at h
 try dsimp only
 refine Ad6 ?_
 refine ⟨_,hS.cel mp0 rfl,?_⟩
 refine Ad6 ?_
 refine ⟨_,_,_,hS.cel mp0 rfl,?_⟩
 refine Aa5 hS ?_;intro w hS
 obtain ⟨t1,ht1,h⟩:=bnd h
 refine Cn1 H hS (qv.mono tl1) ht1 ?_;rintro a1 m1 c1 w hS
 refine ⟨_,_,_,rfl,?_⟩
 refine ⟨(hS.cel mp1 rfl),?_⟩
 refine Aa5 hS ?_;intro w hS
 obtain ⟨t2,ht2,h⟩:=bnd h
 replace hS:=ro1 hS
 obtain rfl:=Aa0 ht2
 refine Bd3 H hS (Ent.sl mp1) ?_;intro w hS
 refine ⟨_,rfl,?_⟩
 refine Aa5 hS ?_;intro w hS
 cases Aa0 h
 exact hK _ _ _ _ hS
theorem Fv1 {q0 qj qm l0 q1 qo qu l1 u0} (hS:Ho w0 w L) (qw:EW L l0 q0 qj qm) (ve:EW L l1 q1 qo qu) (h:Cj2 l0 l1=some u0) (hK:∀ (a0:OA) (n0 c0:Nat) (w1:World),Ho w0 w1 ((sl a0 n0 c0 (List.map (Value.int .u32) u0) N.Il1)::L)→K (.slice a0 n0 c0) w1):Aa1 P N.Il9 #[.slice q0 qj qm,.slice q1 qo qu] w K:=by
 refine H.bn_mul q0 qj qm q1 qo qu w _ ?_
 unfold Ff4
 unfold Cj2 at h
 try dsimp only
 obtain ⟨o1,h1,c1⟩:=bnd h
 refine Ab0 (fun s w=>∃ (t1:Bool),t1=o1∧s=(t1,())∧Ho w0 w L) (fun J1 hJ1=>?_) ?_
 ·
  have h:=h1
  clear h1
  obtain ⟨t2,ht2,h⟩:=bnd h
  obtain rfl:=An6 ht2 (qw.now (fun _ h=>h) hS)
  refine Aa2 h ?_ ?_<;>intro hc h
  ·
   obtain ⟨t3,ht3,h⟩:=bnd h
   obtain rfl:=An6 ht3 (ve.now (fun _ h=>h) hS)
   exact hJ1 _ _ ⟨_,Aa0 h,rfl,hS⟩
  exact hJ1 _ _ ⟨_,Aa0 h,rfl,hS⟩
 clear h1 hS
 rintro s w ⟨t1,rfl,rfl,hS⟩
 have h:=c1
 clear c1
 try dsimp only
 refine Aa2 h ?_ ?_<;>intro hc h
 ·
  replace hS:=hS.none (α:=Int) (enc:=(Value.int .u32)) (t:=N.Il1)
  cases Aa0 h
  exact hK _ _ _ _ hS
 obtain ⟨t4,ht4,h⟩:=bnd h
 obtain rfl:=An6 ht4 (qw.now (fun _ h=>h) hS)
 obtain ⟨t5,ht5,h⟩:=bnd h
 obtain rfl:=An6 ht5 (ve.now (fun _ h=>h) hS)
 obtain ⟨t6,ht6,h⟩:=bnd h
 obtain ⟨rfl,kt6⟩:=mkE ht6
 refine Ft4 (enc:=(Value.int .u32)) hS kt6 rfl ?_;clear hS kt6;intro r2 w hS
 obtain ⟨o3,h3,c3⟩:=bnd h
 refine Ab0 (fun s w=>∃ (t7:List Int),t7=o3∧s=(())∧Ho w0 w ((sl (some ⟨r2,0,none⟩) (((i64.wrap ((qj:Int)+(qo:Int)))).toNat) (((i64.wrap ((qj:Int)+(qo:Int)))).toNat) (List.map (Value.int .u32) t7) N.Il1)::L)) (fun J3 hJ3=>?_) ?_
 ·
  have h:=h3
  clear h3
  refine Ab6 (fun s w t=>∃ (t8:Int) (t9:List Int),(t8,t9)=t∧s=(t8,())∧Ho w0 w ((sl (some ⟨r2,0,none⟩) (((i64.wrap ((qj:Int)+(qo:Int)))).toNat) (((i64.wrap ((qj:Int)+(qo:Int)))).toNat) (List.map (Value.int .u32) t9) N.Il1)::L)) ?_ h ⟨_,_,rfl,rfl,hS⟩
  clear h hS
  rintro s w t X q ⟨t8,t9,rfl,rfl,hS⟩ h hX hO
  unfold Bg9 at h
  try dsimp only
  obtain ⟨t10,ht10,h⟩:=bnd h
  obtain rfl:=An6 ht10 ((qw.mono tl1).now (fun _ h=>h) hS)
  refine Aa2 h ?_ ?_<;>intro hc h
  ·
   obtain ⟨o4,h4,c4⟩:=bnd h
   refine Ab0 (fun s w=>∃ (t11:Int) (t12:List Int),(t11,t12)=o4∧s=(t11,())∧Ho w0 w ((sl (some ⟨r2,0,none⟩) (((i64.wrap ((qj:Int)+(qo:Int)))).toNat) (((i64.wrap ((qj:Int)+(qo:Int)))).toNat) (List.map (Value.int .u32) t12) N.Il1)::L)) (fun J4 hJ4=>?_) ?_
   ·
    have h:=h4
    clear h4
    refine Ab6 (fun s w t=>∃ (t13:Int) (t14:Int) (t15:List Int),(t13,t14,t15)=t∧s=(t13,t14,())∧Ho w0 w ((sl (some ⟨r2,0,none⟩) (((i64.wrap ((qj:Int)+(qo:Int)))).toNat) (((i64.wrap ((qj:Int)+(qo:Int)))).toNat) (List.map (Value.int .u32) t15) N.Il1)::L)) ?_ h ⟨_,_,_,rfl,rfl,hS⟩
    clear h hS
    rintro s w t X q ⟨t13,t14,t15,rfl,rfl,hS⟩ h hX hO
    unfold Av3 at h
    try dsimp only
    obtain ⟨t16,ht16,h⟩:=bnd h
    obtain rfl:=An6 ht16 ((ve.mono tl1).now (fun _ h=>h) hS)
    refine Aa2 h ?_ ?_<;>intro hc h
    ·
     obtain ⟨t17,ht17,h⟩:=bnd h
     obtain ⟨q5x,jc,q5r⟩:=atE ht17
     refine Ac7 ((qw.mono tl1).now (fun _ h=>h) hS) q5x jc q5r ?_;intro b6 hb6
     refine ⟨_,Ab4 ((qw.mono tl1).now (fun _ h=>h) hS) hb6 q5x,?_⟩
     obtain ⟨t18,ht18,h⟩:=bnd h
     obtain ⟨q7x,jr,q7r⟩:=atE ht18
     refine Ac7 ((ve.mono tl1).now (fun _ h=>h) hS) q7x jr q7r ?_;intro b8 hb8
     refine ⟨_,Ab4 ((ve.mono tl1).now (fun _ h=>h) hS) hb8 q7x,?_⟩
     obtain ⟨t19,ht19,h⟩:=bnd h
     obtain ⟨q9x,gh,q9r⟩:=atE ht19
     refine Bh6 ((Ent.sl mp0).now (fun _ h=>h) hS) q9x gh q9r ?_
     refine ⟨_,Ab4 ((Ent.sl mp0).now (fun _ h=>h) hS) rfl q9x,?_⟩
     refine Aa5 hS ?_;intro w hS
     obtain ⟨t20,ht20,h⟩:=bnd h
     obtain ⟨q11x,yq,q11r⟩:=atE ht20
     refine Bh6 ((Ent.sl mp0).now (fun _ h=>h) hS) q11x yq q11r ?_
     obtain ⟨t21,ht21,h⟩:=bnd h
     obtain rfl:=Aa0 ht21
     refine Bj9 hS rfl q11r ?_;intro w hS
     refine ⟨by decide,?_⟩
     obtain rfl:=Aa0 h
     exact hX _ rfl _ _ ⟨_,_,_,rfl,rfl,hS⟩
    obtain rfl:=Aa0 h
    have h:=congrArg some (hO _ rfl)
    exact hJ4 _ _ ⟨_,_,Aa0 h,rfl,hS⟩
   clear h4 hS
   rintro s w ⟨t11,t12,rfl,rfl,hS⟩
   have h:=c4
   clear c4
   try dsimp only
   obtain ⟨t22,ht22,h⟩:=bnd h
   obtain rfl:=An6 ht22 ((ve.mono tl1).now (fun _ h=>h) hS)
   obtain ⟨t23,ht23,h⟩:=bnd h
   obtain ⟨q13x,yw,q13r⟩:=atE ht23
   refine Bh6 ((Ent.sl mp0).now (fun _ h=>h) hS) q13x yw q13r ?_
   obtain ⟨t24,ht24,h⟩:=bnd h
   obtain rfl:=Aa0 ht24
   refine Bj9 hS rfl q13r ?_;intro w hS
   obtain rfl:=Aa0 h
   exact hX _ rfl _ _ ⟨_,_,rfl,rfl,hS⟩
  obtain rfl:=Aa0 h
  have h:=congrArg some (hO _ rfl)
  exact hJ3 _ _ ⟨_,Aa0 h,rfl,hS⟩
 clear h3 hS
 rintro s w ⟨t7,rfl,rfl,hS⟩
 have h:=c3
 clear c3
 try dsimp only
 obtain ⟨t25,ht25,h⟩:=bnd h
 refine Aw5 H hS (Ent.sl mp0) ht25 ?_;rintro w hS
 refine ⟨_,_,_,rfl,?_⟩
 obtain ⟨t26,ht26,h⟩:=bnd h
 obtain ⟨rfl,zx,zy,gj⟩:=Ew0 ht26
 have zz:=((Ent.sl mp0).now (fun _ h=>h) hS).hiCap gj
 replace hS:=Ho.cut hS gj
 cases Aa0 h
 exact hK _ _ _ _ hS
theorem Ee2 {r_0 ql qk qh qi l1_1 r_2 yf yg vr vt l2_1 u0a u0b} (hS:Ho w0 w ((cl r_0 [.bool ql,.slice qk qh qi] N.Ik4)::L)) (qv:EW L l1_1 qk qh qi) (eq2:Ent L (cl r_2 [.bool yf,.slice yg vr vt] N.Ik4).A) (vy:EW L l2_1 yg vr vt) (h:Cy4 ql l1_1 yf l2_1=some (u0a,u0b)) (hK:∀ (a0:OA) (n0 c0:Nat) (w1:World),Ho w0 w1 ((cl r_0 [.bool u0a,.slice a0 n0 c0] N.Ik4)::(sl a0 n0 c0 (List.map (Value.int .u32) u0b) N.Il1)::L)→K (.pointer (some ⟨r_0,0,none⟩)) w1):Aa1 P N.Il7 #[.pointer (some ⟨r_0,0,none⟩),.pointer (some ⟨r_0,0,none⟩),.pointer (some ⟨r_2,0,none⟩)] w K:=by
 refine H.bI_Mul (some ⟨r_0,0,none⟩) (some ⟨r_0,0,none⟩) (some ⟨r_2,0,none⟩) w _ ?_
 unfold Fk0
 unfold Cy4 at h
 try dsimp only
 refine Ad6 ?_
 refine ⟨_,hS.cel mp0 rfl,?_⟩
 refine Ad6 ?_
 refine ⟨_,(eq2.cel tl1 hS rfl),?_⟩
 refine Ad6 ?_
 refine ⟨_,_,_,hS.cel mp0 rfl,?_⟩
 refine Ad6 ?_
 refine ⟨_,_,_,(eq2.cel tl1 hS rfl),?_⟩
 refine Aa5 hS ?_;intro w hS
 obtain ⟨t1,ht1,h⟩:=bnd h
 refine Fv1 H hS (qv.mono tl1) (vy.mono tl1) ht1 ?_;rintro a1 m1 c1 w hS
 refine ⟨_,_,_,rfl,?_⟩
 refine ⟨(eq2.cel tl2 hS rfl),?_⟩
 refine ⟨(hS.cel mp1 rfl),?_⟩
 refine Aa5 hS ?_;intro w hS
 obtain ⟨t2,ht2,h⟩:=bnd h
 replace hS:=ro1 hS
 obtain rfl:=Aa0 ht2
 refine Bd3 H hS (Ent.sl mp1) ?_;intro w hS
 refine ⟨_,rfl,?_⟩
 refine Aa5 hS ?_;intro w hS
 cases Aa0 h
 exact hK _ _ _ _ hS
theorem El3 {r_0 qb qc qe qg l0_1 u0} (hS:Ho w0 w L) (eq0:Ent L (cl r_0 [.bool qb,.slice qc qe qg] N.Ik4).A) (qn:EW L l0_1 qc qe qg) (h:Cj7 qb l0_1=some u0) (hK:∀ w1,Ho w0 w1 L→K (.int .i64 u0) w1):Aa1 P N.Ii8 #[.pointer (some ⟨r_0,0,none⟩)] w K:=by
 refine H.bI_Sign (some ⟨r_0,0,none⟩) w _ ?_
 unfold Ek6
 unfold Cj7 at h
 try dsimp only
 refine Ad6 ?_
 refine ⟨_,_,_,(eq0.cel (fun _ h=>h) hS rfl),?_⟩
 obtain ⟨t1,ht1,h⟩:=bnd h
 obtain rfl:=An6 ht1 (qn.now (fun _ h=>h) hS)
 refine Aa2 h ?_ ?_<;>intro hc h
 ·
  cases Aa0 h
  exact hK _ hS
 refine Ad6 ?_
 refine ⟨_,(eq0.cel (fun _ h=>h) hS rfl),?_⟩
 refine Aa2 h ?_ ?_<;>intro hc h
 ·
  cases Aa0 h
  exact hK _ hS
 cases Aa0 h
 exact hK _ hS
theorem Gb0 {q0 qj qm l0 q1 u0} (hS:Ho w0 w L) (qw:EW L l0 q0 qj qm) (h:Cm0 l0 q1=some u0) (hK:∀ w1,Ho w0 w1 L→K (.int .u64 u0) w1):Aa1 P N.Ij6 #[.slice q0 qj qm,.int .i64 q1] w K:=by
 refine H.bn_bit q0 qj qm q1 w _ ?_
 unfold Fj0
 unfold Cm0 at h
 try dsimp only
 refine Aa2 h ?_ ?_<;>intro hc h
 ·
  refine ⟨by decide,?_⟩
  obtain ⟨t1,ht1,h⟩:=bnd h
  obtain rfl:=An6 ht1 (qw.now (fun _ h=>h) hS)
  refine Aa2 h ?_ ?_<;>intro hc h
  ·
   cases Aa0 h
   exact hK _ hS
  refine ⟨by decide,?_⟩
  obtain ⟨t2,ht2,h⟩:=bnd h
  obtain ⟨q1x,qo,q1r⟩:=atE ht2
  refine Ac7 (qw.now (fun _ h=>h) hS) q1x qo q1r ?_;intro b2 hb2
  refine ⟨_,Ab4 (qw.now (fun _ h=>h) hS) hb2 q1x,?_⟩
  refine ⟨by decide,?_⟩
  obtain ⟨t3,ht3,h⟩:=bnd h
  refine ⟨Hh3 ht3,?_⟩
  cases Aa0 h
  exact hK _ hS
 cases Aa0 h
 exact hK _ hS
theorem Bl3 {r_0 qb qc qe qg l0_1 u0} (hS:Ho w0 w L) (eq0:Ent L (cl r_0 [.bool qb,.slice qc qe qg] N.Ik4).A) (qn:EW L l0_1 qc qe qg) (h:Al5 qb l0_1=some u0) (hK:∀ w1,Ho w0 w1 L→K (.int .u64 u0) w1):Aa1 P N.Hu6 #[.pointer (some ⟨r_0,0,none⟩)] w K:=by
 refine H.bI_TrailingZeroBits (some ⟨r_0,0,none⟩) w _ ?_
 unfold Bc1
 unfold Al5 at h
 try dsimp only
 refine Ad6 ?_
 refine ⟨_,_,_,(eq0.cel (fun _ h=>h) hS rfl),?_⟩
 obtain ⟨t1,ht1,h⟩:=bnd h
 obtain rfl:=An6 ht1 (qn.now (fun _ h=>h) hS)
 refine Aa2 h ?_ ?_<;>intro hc h
 ·
  cases Aa0 h
  exact hK _ hS
 obtain ⟨o1,h1,c1⟩:=bnd h
 refine Ab0 (fun s w=>∃ (t2:Int),t2=o1∧s=(t2,())∧Ho w0 w L) (fun J1 hJ1=>?_) ?_
 ·
  have h:=h1
  clear h1
  refine Ab6 (fun s w t=>∃ (t3:Int),t3=t∧s=(t3,())∧Ho w0 w L) ?_ h ⟨_,rfl,rfl,hS⟩
  clear h hS
  rintro s w t X q ⟨t3,rfl,rfl,hS⟩ h hX hO
  unfold Af5 at h
  try dsimp only
  refine Ad6 ?_
  refine ⟨_,_,_,(eq0.cel (fun _ h=>h) hS rfl),?_⟩
  obtain ⟨t4,ht4,h⟩:=bnd h
  refine Gb0 H hS qn ht4 ?_;rintro w hS
  refine ⟨_,rfl,?_⟩
  refine Aa2 h ?_ ?_<;>intro hc h
  ·
   obtain rfl:=Aa0 h
   exact hX _ rfl _ _ ⟨_,rfl,rfl,hS⟩
  obtain rfl:=Aa0 h
  have h:=congrArg some (hO _ rfl)
  exact hJ1 _ _ ⟨_,Aa0 h,rfl,hS⟩
 clear h1 hS
 rintro s w ⟨t2,rfl,rfl,hS⟩
 have h:=c1
 clear c1
 try dsimp only
 cases Aa0 h
 exact hK _ hS
theorem Eo6 {q0 qj qm l0 u0} (hS:Ho w0 w L) (qw:EW L l0 q0 qj qm) (h:Bf7 l0=some u0) (hK:∀ w1,Ho w0 w1 L→K (.int .i64 u0) w1):Aa1 P N.If4 #[.slice q0 qj qm] w K:=by
 refine H.bn_length q0 qj qm w _ ?_
 unfold Dc8
 unfold Bf7 at h
 try dsimp only
 obtain ⟨t1,ht1,h⟩:=bnd h
 obtain rfl:=An6 ht1 (qw.now (fun _ h=>h) hS)
 refine Aa2 h ?_ ?_<;>intro hc h
 ·
  cases Aa0 h
  exact hK _ hS
 obtain ⟨t2,ht2,h⟩:=bnd h
 obtain rfl:=An6 ht2 (qw.now (fun _ h=>h) hS)
 obtain ⟨t3,ht3,h⟩:=bnd h
 obtain ⟨q1x,qo,q1r⟩:=atE ht3
 refine Ac7 (qw.now (fun _ h=>h) hS) q1x qo q1r ?_;intro b2 hb2
 refine ⟨_,Ab4 (qw.now (fun _ h=>h) hS) hb2 q1x,?_⟩
 obtain ⟨o3,h3,c3⟩:=bnd h
 refine Ab0 (fun s w=>∃ (t4:Int),t4=o3∧s=(t4,())∧Ho w0 w L) (fun J3 hJ3=>?_) ?_
 ·
  have h:=h3
  clear h3
  refine Ab6 (fun s w t=>∃ (t5:Int) (t6:Int),(t5,t6)=t∧s=(t5,t6,())∧Ho w0 w L) ?_ h ⟨_,_,rfl,rfl,hS⟩
  clear h hS
  rintro s w t X q ⟨t5,t6,rfl,rfl,hS⟩ h hX hO
  unfold Ap4 at h
  try dsimp only
  refine Aa2 h ?_ ?_<;>intro hc h
  ·
   refine ⟨by decide,?_⟩
   obtain rfl:=Aa0 h
   exact hX _ rfl _ _ ⟨_,_,rfl,rfl,hS⟩
  obtain rfl:=Aa0 h
  have h:=congrArg some (hO _ rfl)
  exact hJ3 _ _ ⟨_,Aa0 h,rfl,hS⟩
 clear h3 hS
 rintro s w ⟨t4,rfl,rfl,hS⟩
 have h:=c3
 clear c3
 try dsimp only
 obtain ⟨t7,ht7,h⟩:=bnd h
 obtain rfl:=An6 ht7 (qw.now (fun _ h=>h) hS)
 cases Aa0 h
 exact hK _ hS
theorem Do1 {r_0 qb qc qe qg l0_1 u0} (hS:Ho w0 w L) (eq0:Ent L (cl r_0 [.bool qb,.slice qc qe qg] N.Ik4).A) (qn:EW L l0_1 qc qe qg) (h:Bp1 qb l0_1=some u0) (hK:∀ w1,Ho w0 w1 L→K (.int .i64 u0) w1):Aa1 P N.Ie8 #[.pointer (some ⟨r_0,0,none⟩)] w K:=by
 refine H.bI_BitLen (some ⟨r_0,0,none⟩) w _ ?_
 unfold Dl0
 unfold Bp1 at h
 try dsimp only
 refine Ad6 ?_
 refine ⟨_,_,_,(eq0.cel (fun _ h=>h) hS rfl),?_⟩
 obtain ⟨t1,ht1,h⟩:=bnd h
 refine Eo6 H hS qn ht1 ?_;rintro w hS
 refine ⟨_,rfl,?_⟩
 cases Aa0 h
 exact hK _ hS
theorem Ej5 {r_0} {b_0 s_0:Value} {r_1 ql qk qh qi l1_1 u0a u0b} (hS:Ho w0 w ((cl r_0 [b_0,s_0] N.Ik4)::L)) (eq1:Ent L (cl r_1 [.bool ql,.slice qk qh qi] N.Ik4).A) (qv:EW L l1_1 qk qh qi) (h:Bx1 ql l1_1=some (u0a,u0b)) (hK:∀ (a0:OA) (n0 c0:Nat) (w1:World),Ho w0 w1 ((cl r_0 [.bool u0a,.slice a0 n0 c0] N.Ik4)::(sl a0 n0 c0 (List.map (Value.int .u32) u0b) N.Il1)::L)→K (.pointer (some ⟨r_0,0,none⟩)) w1):Aa1 P N.Il2 #[.pointer (some ⟨r_0,0,none⟩),.pointer (some ⟨r_1,0,none⟩)] w K:=by
 refine H.bI_Abs (some ⟨r_0,0,none⟩) (some ⟨r_1,0,none⟩) w _ ?_
 unfold Dx9
 unfold Bx1 at h
 try dsimp only
 refine Ad6 ?_
 refine ⟨_,_,_,(eq1.cel tl1 hS rfl),?_⟩
 obtain ⟨t1,ht1,h⟩:=bnd h
 refine Cn1 H hS (qv.mono tl1) ht1 ?_;rintro a1 m1 c1 w hS
 refine ⟨_,_,_,rfl,?_⟩
 obtain ⟨t2,ht2,h⟩:=bnd h
 replace hS:=ro1 hS
 obtain rfl:=Aa0 ht2
 refine Bd3 H hS (Ent.sl mp1) ?_;intro w hS
 refine ⟨_,rfl,?_⟩
 cases Aa0 h
 exact hK _ _ _ _ hS
theorem Ek0 {r_0 ql qk qh qi l1_1 u0a u0b} (hS:Ho w0 w ((cl r_0 [.bool ql,.slice qk qh qi] N.Ik4)::L)) (qv:EW L l1_1 qk qh qi) (h:Bx1 ql l1_1=some (u0a,u0b)) (hK:∀ (a0:OA) (n0 c0:Nat) (w1:World),Ho w0 w1 ((cl r_0 [.bool u0a,.slice a0 n0 c0] N.Ik4)::(sl a0 n0 c0 (List.map (Value.int .u32) u0b) N.Il1)::L)→K (.pointer (some ⟨r_0,0,none⟩)) w1):Aa1 P N.Il2 #[.pointer (some ⟨r_0,0,none⟩),.pointer (some ⟨r_0,0,none⟩)] w K:=by
 refine H.bI_Abs (some ⟨r_0,0,none⟩) (some ⟨r_0,0,none⟩) w _ ?_
 unfold Dx9
 unfold Bx1 at h
 try dsimp only
 refine Ad6 ?_
 refine ⟨_,_,_,hS.cel mp0 rfl,?_⟩
 obtain ⟨t1,ht1,h⟩:=bnd h
 refine Cn1 H hS (qv.mono tl1) ht1 ?_;rintro a1 m1 c1 w hS
 refine ⟨_,_,_,rfl,?_⟩
 obtain ⟨t2,ht2,h⟩:=bnd h
 replace hS:=ro1 hS
 obtain rfl:=Aa0 ht2
 refine Bd3 H hS (Ent.sl mp1) ?_;intro w hS
 refine ⟨_,rfl,?_⟩
 cases Aa0 h
 exact hK _ _ _ _ hS
theorem Cj8 {q0 qj qm l0 q1 qo qu l1 u0} (hS:Ho w0 w L) (qw:EW L l0 q0 qj qm) (ve:EW L l1 q1 qo qu) (h:Bm9 l0 l1=some u0) (hK:∀ (a0:OA) (n0 c0:Nat) (w1:World),Ho w0 w1 ((sl a0 n0 c0 (List.map (Value.int .u32) u0) N.Il1)::L)→K (.slice a0 n0 c0) w1):Aa1 P N.Il8 #[.slice q0 qj qm,.slice q1 qo qu] w K:=by
 refine H.bn_sub q0 qj qm q1 qo qu w _ ?_
 unfold Fh7
 unfold Bm9 at h
 try dsimp only
 obtain ⟨t1,ht1,h⟩:=bnd h
 obtain rfl:=An6 ht1 (qw.now (fun _ h=>h) hS)
 obtain ⟨t2,ht2,h⟩:=bnd h
 obtain ⟨rfl,kt2⟩:=mkE ht2
 refine Ft4 (enc:=(Value.int .u32)) hS kt2 rfl ?_;clear hS kt2;intro r1 w hS
 obtain ⟨o2,h2,c2⟩:=bnd h
 refine Ab0 (fun s w=>∃ (t3:List Int),t3=o2∧s=(())∧Ho w0 w ((sl (some ⟨r1,0,none⟩) (((qj:Int)).toNat) (((qj:Int)).toNat) (List.map (Value.int .u32) t3) N.Il1)::L)) (fun J2 hJ2=>?_) ?_
 ·
  have h:=h2
  clear h2
  refine Ab6 (fun s w t=>∃ (t4:Int) (t5:Int) (t6:List Int),(t4,t5,t6)=t∧s=(t4,t5,())∧Ho w0 w ((sl (some ⟨r1,0,none⟩) (((qj:Int)).toNat) (((qj:Int)).toNat) (List.map (Value.int .u32) t6) N.Il1)::L)) ?_ h ⟨_,_,_,rfl,rfl,hS⟩
  clear h hS
  rintro s w t X q ⟨t4,t5,t6,rfl,rfl,hS⟩ h hX hO
  unfold Az8 at h
  try dsimp only
  obtain ⟨t7,ht7,h⟩:=bnd h
  obtain rfl:=An6 ht7 ((qw.mono tl1).now (fun _ h=>h) hS)
  refine Aa2 h ?_ ?_<;>intro hc h
  ·
   obtain ⟨t8,ht8,h⟩:=bnd h
   obtain ⟨q3x,vm,q3r⟩:=atE ht8
   refine Ac7 ((qw.mono tl1).now (fun _ h=>h) hS) q3x vm q3r ?_;intro b4 hb4
   refine ⟨_,Ab4 ((qw.mono tl1).now (fun _ h=>h) hS) hb4 q3x,?_⟩
   obtain ⟨t9,ht9,h⟩:=bnd h
   obtain rfl:=An6 ht9 ((ve.mono tl1).now (fun _ h=>h) hS)
   obtain ⟨o5,h5,c5⟩:=bnd h
   refine Ab0 (fun s w=>∃ (t10:Int),t10=o5∧s=(t10,())∧Ho w0 w ((sl (some ⟨r1,0,none⟩) (((qj:Int)).toNat) (((qj:Int)).toNat) (List.map (Value.int .u32) t6) N.Il1)::L)) (fun J5 hJ5=>?_) ?_
   ·
    have h:=h5
    clear h5
    refine Aa2 h ?_ ?_<;>intro hc h
    ·
     obtain ⟨t11,ht11,h⟩:=bnd h
     obtain ⟨q6x,yh,q6r⟩:=atE ht11
     refine Ac7 ((ve.mono tl1).now (fun _ h=>h) hS) q6x yh q6r ?_;intro b7 hb7
     refine ⟨_,Ab4 ((ve.mono tl1).now (fun _ h=>h) hS) hb7 q6x,?_⟩
     exact hJ5 _ _ ⟨_,Aa0 h,rfl,hS⟩
    exact hJ5 _ _ ⟨_,Aa0 h,rfl,hS⟩
   clear h5 hS
   rintro s w ⟨t10,rfl,rfl,hS⟩
   have h:=c5
   clear c5
   try dsimp only
   obtain ⟨t12,ht12,h⟩:=bnd h
   obtain ⟨q8x,yj,q8r⟩:=atE ht12
   refine Bh6 ((Ent.sl mp0).now (fun _ h=>h) hS) q8x yj q8r ?_
   obtain ⟨t13,ht13,h⟩:=bnd h
   obtain rfl:=Aa0 ht13
   refine Bj9 hS rfl q8r ?_;intro w hS
   refine ⟨by decide,?_⟩
   obtain rfl:=Aa0 h
   exact hX _ rfl _ _ ⟨_,_,_,rfl,rfl,hS⟩
  obtain rfl:=Aa0 h
  have h:=congrArg some (hO _ rfl)
  exact hJ2 _ _ ⟨_,Aa0 h,rfl,hS⟩
 clear h2 hS
 rintro s w ⟨t3,rfl,rfl,hS⟩
 have h:=c2
 clear c2
 try dsimp only
 obtain ⟨t14,ht14,h⟩:=bnd h
 refine Aw5 H hS (Ent.sl mp0) ht14 ?_;rintro w hS
 refine ⟨_,_,_,rfl,?_⟩
 obtain ⟨t15,ht15,h⟩:=bnd h
 obtain ⟨rfl,gn,gr,jf⟩:=Ew0 ht15
 have gu:=((Ent.sl mp0).now (fun _ h=>h) hS).hiCap jf
 replace hS:=Ho.cut hS jf
 cases Aa0 h
 exact hK _ _ _ _ hS
theorem Bo5 {q0 qj qm l0 q1 u0} (hS:Ho w0 w L) (qw:EW L l0 q0 qj qm) (h:Be8 l0 q1=some u0) (hK:∀ (a0:OA) (n0 c0:Nat) (w1:World),Ho w0 w1 ((sl a0 n0 c0 (List.map (Value.int .u32) u0) N.Il1)::L)→K (.slice a0 n0 c0) w1):Aa1 P N.Ih8 #[.slice q0 qj qm,.int .u64 q1] w K:=by
 refine H.bn_right q0 qj qm q1 w _ ?_
 unfold Dw8
 unfold Be8 at h
 try dsimp only
 refine ⟨by decide,?_⟩
 refine ⟨by decide,?_⟩
 obtain ⟨t1,ht1,h⟩:=bnd h
 obtain rfl:=An6 ht1 (qw.now (fun _ h=>h) hS)
 refine Aa2 h ?_ ?_<;>intro hc h
 ·
  replace hS:=hS.none (α:=Int) (enc:=(Value.int .u32)) (t:=N.Il1)
  cases Aa0 h
  exact hK _ _ _ _ hS
 obtain ⟨t2,ht2,h⟩:=bnd h
 obtain rfl:=An6 ht2 (qw.now (fun _ h=>h) hS)
 obtain ⟨t3,ht3,h⟩:=bnd h
 obtain ⟨rfl,kt3⟩:=mkE ht3
 refine Ft4 (enc:=(Value.int .u32)) hS kt3 rfl ?_;clear hS kt3;intro r1 w hS
 obtain ⟨o2,h2,c2⟩:=bnd h
 refine Ab0 (fun s w=>∃ (t4:List Int),t4=o2∧s=(())∧Ho w0 w ((sl (some ⟨r1,0,none⟩) (((i64.wrap ((qj:Int)-(i64.wrap (u64.wrap (q1.tdiv 32)))))).toNat) (((i64.wrap ((qj:Int)-(i64.wrap (u64.wrap (q1.tdiv 32)))))).toNat) (List.map (Value.int .u32) t4) N.Il1)::L)) (fun J2 hJ2=>?_) ?_
 ·
  have h:=h2
  clear h2
  refine Ab6 (fun s w t=>∃ (t5:Int) (t6:List Int),(t5,t6)=t∧s=(t5,())∧Ho w0 w ((sl (some ⟨r1,0,none⟩) (((i64.wrap ((qj:Int)-(i64.wrap (u64.wrap (q1.tdiv 32)))))).toNat) (((i64.wrap ((qj:Int)-(i64.wrap (u64.wrap (q1.tdiv 32)))))).toNat) (List.map (Value.int .u32) t6) N.Il1)::L)) ?_ h ⟨_,_,rfl,rfl,hS⟩
  clear h hS
  rintro s w t X q ⟨t5,t6,rfl,rfl,hS⟩ h hX hO
  unfold As5 at h
  try dsimp only
  obtain ⟨t7,ht7,h⟩:=bnd h
  obtain rfl:=An6 ht7 ((Ent.sl mp0).now (fun _ h=>h) hS)
  refine Aa2 h ?_ ?_<;>intro hc h
  ·
   obtain ⟨t8,ht8,h⟩:=bnd h
   obtain ⟨q3x,vm,q3r⟩:=atE ht8
   refine Ac7 ((qw.mono tl1).now (fun _ h=>h) hS) q3x vm q3r ?_;intro b4 hb4
   refine ⟨_,Ab4 ((qw.mono tl1).now (fun _ h=>h) hS) hb4 q3x,?_⟩
   obtain ⟨t9,ht9,h⟩:=bnd h
   obtain rfl:=An6 ht9 ((qw.mono tl1).now (fun _ h=>h) hS)
   obtain ⟨o5,h5,c5⟩:=bnd h
   refine Ab0 (fun s w=>∃ (t10:Int),t10=o5∧s=(t10,())∧Ho w0 w ((sl (some ⟨r1,0,none⟩) (((i64.wrap ((qj:Int)-(i64.wrap (u64.wrap (q1.tdiv 32)))))).toNat) (((i64.wrap ((qj:Int)-(i64.wrap (u64.wrap (q1.tdiv 32)))))).toNat) (List.map (Value.int .u32) t6) N.Il1)::L)) (fun J5 hJ5=>?_) ?_
   ·
    have h:=h5
    clear h5
    refine Aa2 h ?_ ?_<;>intro hc h
    ·
     obtain ⟨t11,ht11,h⟩:=bnd h
     obtain ⟨q6x,yh,q6r⟩:=atE ht11
     refine Ac7 ((qw.mono tl1).now (fun _ h=>h) hS) q6x yh q6r ?_;intro b7 hb7
     refine ⟨_,Ab4 ((qw.mono tl1).now (fun _ h=>h) hS) hb7 q6x,?_⟩
     refine ⟨by decide,?_⟩
     exact hJ5 _ _ ⟨_,Aa0 h,rfl,hS⟩
    exact hJ5 _ _ ⟨_,Aa0 h,rfl,hS⟩
   clear h5 hS
   rintro s w ⟨t10,rfl,rfl,hS⟩
   have h:=c5
   clear c5
   try dsimp only
   obtain ⟨t14,ht14,h⟩:=bnd h
   refine ⟨Hh3 ht14,?_⟩
   obtain ⟨t12,ht12,h⟩:=bnd h
   obtain ⟨q8x,yj,q8r⟩:=atE ht12
   refine Bh6 ((Ent.sl mp0).now (fun _ h=>h) hS) q8x yj q8r ?_
   obtain ⟨t13,ht13,h⟩:=bnd h
   obtain rfl:=Aa0 ht13
   refine Bj9 hS rfl q8r ?_;intro w hS
   obtain rfl:=Aa0 h
   exact hX _ rfl _ _ ⟨_,_,rfl,rfl,hS⟩
  obtain rfl:=Aa0 h
  have h:=congrArg some (hO _ rfl)
  exact hJ2 _ _ ⟨_,Aa0 h,rfl,hS⟩
 clear h2 hS
 rintro s w ⟨t4,rfl,rfl,hS⟩
 have h:=c2
 clear c2
 try dsimp only
 obtain ⟨t15,ht15,h⟩:=bnd h
 refine Aw5 H hS (Ent.sl mp0) ht15 ?_;rintro w hS
 refine ⟨_,_,_,rfl,?_⟩
 obtain ⟨t16,ht16,h⟩:=bnd h
 obtain ⟨rfl,gn,gr,jf⟩:=Ew0 ht16
 have gu:=((Ent.sl mp0).now (fun _ h=>h) hS).hiCap jf
 replace hS:=Ho.cut hS jf
 cases Aa0 h
 exact hK _ _ _ _ hS
theorem Dg6 {q0 qj qm l0 q1 qo qu l1 u0} (hS:Ho w0 w L) (qw:EW L l0 q0 qj qm) (ve:EW L l1 q1 qo qu) (h:Bw2 l0 l1=some u0) (hK:∀ (a0:OA) (n0 c0:Nat) (w1:World),Ho w0 w1 ((sl a0 n0 c0 (List.map (Value.int .u32) u0) N.Il1)::L)→K (.slice a0 n0 c0) w1):Aa1 P N.Ik7 #[.slice q0 qj qm,.slice q1 qo qu] w K:=by
 refine H.bn_add q0 qj qm q1 qo qu w _ ?_
 unfold Fj3
 unfold Bw2 at h
 try dsimp only
 obtain ⟨t1,ht1,h⟩:=bnd h
 obtain rfl:=An6 ht1 (qw.now (fun _ h=>h) hS)
 obtain ⟨t2,ht2,h⟩:=bnd h
 obtain rfl:=An6 ht2 (ve.now (fun _ h=>h) hS)
 obtain ⟨o11,h11,c11⟩:=bnd h
 refine Ab0 (fun s w=>∃ (a1:OA) (m2:Nat) (c3:Nat) (t3:List Int) (it4:It) (a6:OA) (m7:Nat) (c8:Nat) (t4:List Int) (it9:It),(t3,t4)=o11∧s=((a1,m2,c3),(a6,m7,c8),())∧Ent (it4::L) (rdA (List.map (Value.int .u32) t3) a1 m2 c3)∧Ent (it9::L) (rdA (List.map (Value.int .u32) t4) a6 m7 c8)∧Ho w0 w (it4::it9::L)) (fun J11 hJ11=>?_) ?_
 ·
  have h:=h11
  clear h11
  refine Aa2 h ?_ ?_<;>intro hc h
  ·
   replace hS:=hS.voidItem
   replace hS:=hS.voidItem
   obtain rfl:=Aa0 h
   exact hJ11 _ _ ⟨_,_,_,_,_,_,_,_,_,_,rfl,rfl,(ve.mono tl1),(qw.mono tl1),(hS.pick (A:=[_,_]) [1,0] rfl)⟩
  replace hS:=hS.voidItem
  replace hS:=hS.voidItem
  obtain rfl:=Aa0 h
  exact hJ11 _ _ ⟨_,_,_,_,_,_,_,_,_,_,rfl,rfl,(qw.mono tl1),(ve.mono tl1),(hS.pick (A:=[_,_]) [1,0] rfl)⟩
 clear h11 hS
 rintro s w ⟨a1,m2,c3,t3,it4,a6,m7,c8,t4,it9,rfl,rfl,e5,e10,hS⟩
 have h:=c11
 clear c11
 try dsimp only
 obtain ⟨t5,ht5,h⟩:=bnd h
 obtain rfl:=An6 ht5 ((e5.mono (Aq5 mp0 tl2)).now (fun _ h=>h) hS)
 obtain ⟨t6,ht6,h⟩:=bnd h
 obtain ⟨rfl,kt6⟩:=mkE ht6
 refine Ft4 (enc:=(Value.int .u32)) hS kt6 rfl ?_;clear hS kt6;intro r12 w hS
 obtain ⟨o13,h13,c13⟩:=bnd h
 refine Ab0 (fun s w=>∃ (t7:Int) (t8:List Int),(t7,t8)=o13∧s=(t7,())∧Ho w0 w ((sl (some ⟨r12,0,none⟩) (((i64.wrap ((m2:Int)+1))).toNat) (((i64.wrap ((m2:Int)+1))).toNat) (List.map (Value.int .u32) t8) N.Il1)::it4::L)) (fun J13 hJ13=>?_) ?_
 ·
  have h:=h13
  clear h13
  refine Ab6 (fun s w t=>∃ (t9:Int) (t10:Int) (t11:List Int),(t9,t10,t11)=t∧s=(t9,t10,())∧Ho w0 w ((sl (some ⟨r12,0,none⟩) (((i64.wrap ((m2:Int)+1))).toNat) (((i64.wrap ((m2:Int)+1))).toNat) (List.map (Value.int .u32) t11) N.Il1)::it4::it9::L)) ?_ h ⟨_,_,_,rfl,rfl,hS⟩
  clear h hS
  rintro s w t X q ⟨t9,t10,t11,rfl,rfl,hS⟩ h hX hO
  unfold Av5 at h
  try dsimp only
  obtain ⟨t12,ht12,h⟩:=bnd h
  obtain rfl:=An6 ht12 ((e5.mono (Aq5 mp1 tl3)).now (fun _ h=>h) hS)
  refine Aa2 h ?_ ?_<;>intro hc h
  ·
   obtain ⟨t13,ht13,h⟩:=bnd h
   obtain ⟨q14x,yx,q14r⟩:=atE ht13
   refine Ac7 ((e5.mono (Aq5 mp1 tl3)).now (fun _ h=>h) hS) q14x yx q14r ?_;intro b15 hb15
   refine ⟨_,Ab4 ((e5.mono (Aq5 mp1 tl3)).now (fun _ h=>h) hS) hb15 q14x,?_⟩
   obtain ⟨t14,ht14,h⟩:=bnd h
   obtain rfl:=An6 ht14 ((e10.mono (Aq5 mp2 tl3)).now (fun _ h=>h) hS)
   obtain ⟨o16,h16,c16⟩:=bnd h
   refine Ab0 (fun s w=>∃ (t15:Int),t15=o16∧s=(t15,())∧Ho w0 w ((sl (some ⟨r12,0,none⟩) (((i64.wrap ((m2:Int)+1))).toNat) (((i64.wrap ((m2:Int)+1))).toNat) (List.map (Value.int .u32) t11) N.Il1)::it4::it9::L)) (fun J16 hJ16=>?_) ?_
   ·
    have h:=h16
    clear h16
    refine Aa2 h ?_ ?_<;>intro hc h
    ·
     obtain ⟨t16,ht16,h⟩:=bnd h
     obtain ⟨q17x,ju,q17r⟩:=atE ht16
     refine Ac7 ((e10.mono (Aq5 mp2 tl3)).now (fun _ h=>h) hS) q17x ju q17r ?_;intro b18 hb18
     refine ⟨_,Ab4 ((e10.mono (Aq5 mp2 tl3)).now (fun _ h=>h) hS) hb18 q17x,?_⟩
     exact hJ16 _ _ ⟨_,Aa0 h,rfl,hS⟩
    exact hJ16 _ _ ⟨_,Aa0 h,rfl,hS⟩
   clear h16 hS
   rintro s w ⟨t15,rfl,rfl,hS⟩
   have h:=c16
   clear c16
   try dsimp only
   obtain ⟨t17,ht17,h⟩:=bnd h
   obtain ⟨q19x,jg,q19r⟩:=atE ht17
   refine Bh6 ((Ent.sl mp0).now (fun _ h=>h) hS) q19x jg q19r ?_
   obtain ⟨t18,ht18,h⟩:=bnd h
   obtain rfl:=Aa0 ht18
   refine Bj9 hS rfl q19r ?_;intro w hS
   refine ⟨by decide,?_⟩
   obtain rfl:=Aa0 h
   exact hX _ rfl _ _ ⟨_,_,_,rfl,rfl,hS⟩
  obtain rfl:=Aa0 h
  have h:=congrArg some (hO _ rfl)
  obtain rfl:=Aa0 h
  exact hJ13 _ _ ⟨_,_,rfl,rfl,(hS.pick (A:=[_,_,_]) [0,0] rfl)⟩
 clear h13 hS
 rintro s w ⟨t7,t8,rfl,rfl,hS⟩
 have h:=c13
 clear c13
 try dsimp only
 obtain ⟨t19,ht19,h⟩:=bnd h
 obtain rfl:=An6 ht19 ((e5.mono (Aq5 mp1 tl2)).now (fun _ h=>h) hS)
 obtain ⟨t20,ht20,h⟩:=bnd h
 obtain ⟨q21x,gv,q21r⟩:=atE ht20
 refine Bh6 ((Ent.sl mp0).now (fun _ h=>h) hS) q21x gv q21r ?_
 obtain ⟨t21,ht21,h⟩:=bnd h
 obtain rfl:=Aa0 ht21
 refine Bj9 hS rfl q21r ?_;intro w hS
 obtain ⟨t22,ht22,h⟩:=bnd h
 refine Aw5 H hS (Ent.sl mp0) ht22 ?_;rintro w hS
 refine ⟨_,_,_,rfl,?_⟩
 obtain ⟨t23,ht23,h⟩:=bnd h
 obtain ⟨rfl,ba,bb,gk⟩:=Ew0 ht23
 have bc:=((Ent.sl mp0).now (fun _ h=>h) hS).hiCap gk
 replace hS:=Ho.cut hS gk
 cases Aa0 h
 exact hK _ _ _ _ (hS.pick (A:=[_,_]) [0] rfl)
theorem Em6 {r_0} {b_0 s_0:Value} {r_1 ql qk qh qi l1_1 q2 u0a u0b} (hS:Ho w0 w ((cl r_0 [b_0,s_0] N.Ik4)::L)) (eq1:Ent L (cl r_1 [.bool ql,.slice qk qh qi] N.Ik4).A) (qv:EW L l1_1 qk qh qi) (h:Bw6 ql l1_1 q2=some (u0a,u0b)) (hK:∀ (a0:OA) (n0 c0:Nat) (w1:World),Ho w0 w1 ((cl r_0 [.bool u0a,.slice a0 n0 c0] N.Ik4)::(sl a0 n0 c0 (List.map (Value.int .u32) u0b) N.Il1)::L)→K (.pointer (some ⟨r_0,0,none⟩)) w1):Aa1 P N.Il6 #[.pointer (some ⟨r_0,0,none⟩),.pointer (some ⟨r_1,0,none⟩),.int .u64 q2] w K:=by
 refine H.bI_Rsh (some ⟨r_0,0,none⟩) (some ⟨r_1,0,none⟩) q2 w _ ?_
 unfold Ef6
 unfold Bw6 at h
 try dsimp only
 refine Ad6 ?_
 refine ⟨_,(eq1.cel tl1 hS rfl),?_⟩
 refine Aa2 h ?_ ?_<;>intro hc h
 ·
  refine Ad6 ?_
  refine ⟨_,_,_,(eq1.cel tl1 hS rfl),?_⟩
  obtain ⟨t1,ht1,h⟩:=bnd h
  obtain rfl:([1]:List Int)=t1:=Aa0 ht1
  refine Ap0 (ks:=[1]) (enc:=(Value.int .u32)) (m:=1) hS rfl rfl ?_;intro r1 w hS
  obtain ⟨t2,ht2,h⟩:=bnd h
  refine Cj8 H hS (qv.mono tl2) (Ent.sl mp0) ht2 ?_;rintro a2 m2 c2 w hS
  refine ⟨_,_,_,rfl,?_⟩
  obtain ⟨t3,ht3,h⟩:=bnd h
  refine Bo5 H hS (Ent.sl mp0) ht3 ?_;rintro a3 m3 c3 w hS
  refine ⟨_,_,_,rfl,?_⟩
  obtain ⟨t4,ht4,h⟩:=bnd h
  obtain rfl:([1]:List Int)=t4:=Aa0 ht4
  refine Ap0 (ks:=[1]) (enc:=(Value.int .u32)) (m:=1) hS rfl rfl ?_;intro r4 w hS
  obtain ⟨t5,ht5,h⟩:=bnd h
  refine Dg6 H hS (Ent.sl mp1) (Ent.sl mp0) ht5 ?_;rintro a5 m5 c5 w hS
  refine ⟨_,_,_,rfl,?_⟩
  obtain ⟨t6,ht6,h⟩:=bnd h
  replace hS:=ro5 hS
  obtain rfl:=Aa0 ht6
  refine Bd3 H hS (Ent.sl mp1) ?_;intro w hS
  refine ⟨_,rfl,?_⟩
  cases Aa0 h
  exact hK _ _ _ _ (hS.pick (A:=[_,_,_,_,_,_]) [0,0] rfl)
 refine Ad6 ?_
 refine ⟨_,_,_,(eq1.cel tl1 hS rfl),?_⟩
 obtain ⟨t7,ht7,h⟩:=bnd h
 refine Bo5 H hS (qv.mono tl1) ht7 ?_;rintro a6 m6 c6 w hS
 refine ⟨_,_,_,rfl,?_⟩
 obtain ⟨t8,ht8,h⟩:=bnd h
 replace hS:=ro1 hS
 obtain rfl:=Aa0 ht8
 refine Bd3 H hS (Ent.sl mp1) ?_;intro w hS
 refine ⟨_,rfl,?_⟩
 cases Aa0 h
 exact hK _ _ _ _ hS
theorem En2 {r_0 ql qk qh qi l1_1 q2 u0a u0b} (hS:Ho w0 w ((cl r_0 [.bool ql,.slice qk qh qi] N.Ik4)::L)) (qv:EW L l1_1 qk qh qi) (h:Bw6 ql l1_1 q2=some (u0a,u0b)) (hK:∀ (a0:OA) (n0 c0:Nat) (w1:World),Ho w0 w1 ((cl r_0 [.bool u0a,.slice a0 n0 c0] N.Ik4)::(sl a0 n0 c0 (List.map (Value.int .u32) u0b) N.Il1)::L)→K (.pointer (some ⟨r_0,0,none⟩)) w1):Aa1 P N.Il6 #[.pointer (some ⟨r_0,0,none⟩),.pointer (some ⟨r_0,0,none⟩),.int .u64 q2] w K:=by
 refine H.bI_Rsh (some ⟨r_0,0,none⟩) (some ⟨r_0,0,none⟩) q2 w _ ?_
 unfold Ef6
 unfold Bw6 at h
 try dsimp only
 refine Ad6 ?_
 refine ⟨_,hS.cel mp0 rfl,?_⟩
 refine Aa2 h ?_ ?_<;>intro hc h
 ·
  refine Ad6 ?_
  refine ⟨_,_,_,hS.cel mp0 rfl,?_⟩
  obtain ⟨t1,ht1,h⟩:=bnd h
  obtain rfl:([1]:List Int)=t1:=Aa0 ht1
  refine Ap0 (ks:=[1]) (enc:=(Value.int .u32)) (m:=1) hS rfl rfl ?_;intro r1 w hS
  obtain ⟨t2,ht2,h⟩:=bnd h
  refine Cj8 H hS (qv.mono tl2) (Ent.sl mp0) ht2 ?_;rintro a2 m2 c2 w hS
  refine ⟨_,_,_,rfl,?_⟩
  obtain ⟨t3,ht3,h⟩:=bnd h
  refine Bo5 H hS (Ent.sl mp0) ht3 ?_;rintro a3 m3 c3 w hS
  refine ⟨_,_,_,rfl,?_⟩
  obtain ⟨t4,ht4,h⟩:=bnd h
  obtain rfl:([1]:List Int)=t4:=Aa0 ht4
  refine Ap0 (ks:=[1]) (enc:=(Value.int .u32)) (m:=1) hS rfl rfl ?_;intro r4 w hS
  obtain ⟨t5,ht5,h⟩:=bnd h
  refine Dg6 H hS (Ent.sl mp1) (Ent.sl mp0) ht5 ?_;rintro a5 m5 c5 w hS
  refine ⟨_,_,_,rfl,?_⟩
  obtain ⟨t6,ht6,h⟩:=bnd h
  replace hS:=ro5 hS
  obtain rfl:=Aa0 ht6
  refine Bd3 H hS (Ent.sl mp1) ?_;intro w hS
  refine ⟨_,rfl,?_⟩
  cases Aa0 h
  exact hK _ _ _ _ (hS.pick (A:=[_,_,_,_,_,_]) [0,0] rfl)
 refine Ad6 ?_
 refine ⟨_,_,_,hS.cel mp0 rfl,?_⟩
 obtain ⟨t7,ht7,h⟩:=bnd h
 refine Bo5 H hS (qv.mono tl1) ht7 ?_;rintro a6 m6 c6 w hS
 refine ⟨_,_,_,rfl,?_⟩
 obtain ⟨t8,ht8,h⟩:=bnd h
 replace hS:=ro1 hS
 obtain rfl:=Aa0 ht8
 refine Bd3 H hS (Ent.sl mp1) ?_;intro w hS
 refine ⟨_,rfl,?_⟩
 cases Aa0 h
 exact hK _ _ _ _ hS
theorem Ec5 {r_0} {b_0 s_0:Value} {r_1 ql qk qh qi l1_1 r_2 yf yg vr vt l2_1 u0a u0b} (hS:Ho w0 w ((cl r_0 [b_0,s_0] N.Ik4)::L)) (eq1:Ent L (cl r_1 [.bool ql,.slice qk qh qi] N.Ik4).A) (qv:EW L l1_1 qk qh qi) (eq2:Ent L (cl r_2 [.bool yf,.slice yg vr vt] N.Ik4).A) (vy:EW L l2_1 yg vr vt) (h:Cy2 ql l1_1 yf l2_1=some (u0a,u0b)) (hK:∀ (a0:OA) (n0 c0:Nat) (w1:World),Ho w0 w1 ((cl r_0 [.bool u0a,.slice a0 n0 c0] N.Ik4)::(sl a0 n0 c0 (List.map (Value.int .u32) u0b) N.Il1)::L)→K (.pointer (some ⟨r_0,0,none⟩)) w1):Aa1 P N.Ij9 #[.pointer (some ⟨r_0,0,none⟩),.pointer (some ⟨r_1,0,none⟩),.pointer (some ⟨r_2,0,none⟩)] w K:=by
 refine H.bI_And (some ⟨r_0,0,none⟩) (some ⟨r_1,0,none⟩) (some ⟨r_2,0,none⟩) w _ ?_
 unfold Fe7
 unfold Cy2 at h
 try dsimp only
 refine Ad6 ?_
 refine ⟨_,_,_,(eq1.cel tl1 hS rfl),?_⟩
 obtain ⟨t1,ht1,h⟩:=bnd h
 obtain rfl:=An6 ht1 ((qv.mono tl1).now (fun _ h=>h) hS)
 refine Ad6 ?_
 refine ⟨_,_,_,(eq2.cel tl1 hS rfl),?_⟩
 obtain ⟨t2,ht2,h⟩:=bnd h
 obtain rfl:=An6 ht2 ((vy.mono tl1).now (fun _ h=>h) hS)
 refine Aa5 hS ?_;intro w hS
 obtain ⟨t3,ht3,h⟩:=bnd h
 refine Bn6 H hS (eq1.mono tl1) (qv.mono tl1) ht3 ?_;rintro a1 m1 c1 w hS
 refine ⟨_,_,_,rfl,?_⟩
 obtain ⟨t4,ht4,h⟩:=bnd h
 refine Bn6 H hS (eq2.mono tl2) (vy.mono tl2) ht4 ?_;rintro a2 m2 c2 w hS
 refine ⟨_,_,_,rfl,?_⟩
 obtain ⟨o3,h3,c3⟩:=bnd h
 refine Ab0 (fun s w=>∃ (t5:List Int),t5=o3∧s=(())∧Ho w0 w ((sl a1 m1 c1 (List.map (Value.int .u32) t5) N.Il1)::(cl r_0 [b_0,s_0] N.Ik4)::L)) (fun J3 hJ3=>?_) ?_
 ·
  have h:=h3
  clear h3
  refine Ab6 (fun s w t=>∃ (t6:Int) (t7:List Int),(t6,t7)=t∧s=(t6,())∧Ho w0 w ((sl a2 m2 c2 (List.map (Value.int .u32) t4) N.Il1)::(sl a1 m1 c1 (List.map (Value.int .u32) t7) N.Il1)::(cl r_0 [b_0,s_0] N.Ik4)::L)) ?_ h ⟨_,_,rfl,rfl,hS⟩
  clear h hS
  rintro s w t X q ⟨t6,t7,rfl,rfl,hS⟩ h hX hO
  unfold Bg4 at h
  try dsimp only
  refine Aa2 h ?_ ?_<;>intro hc h
  ·
   obtain ⟨t8,ht8,h⟩:=bnd h
   obtain ⟨q4x,yv,q4r⟩:=atE ht8
   refine Ac7 ((Ent.sl mp1).now (fun _ h=>h) hS) q4x yv q4r ?_;intro b5 hb5
   refine ⟨_,Ab4 ((Ent.sl mp1).now (fun _ h=>h) hS) hb5 q4x,?_⟩
   obtain ⟨t9,ht9,h⟩:=bnd h
   obtain ⟨q6x,yh,q6r⟩:=atE ht9
   refine Ac7 ((Ent.sl mp0).now (fun _ h=>h) hS) q6x yh q6r ?_;intro b7 hb7
   refine ⟨_,Ab4 ((Ent.sl mp0).now (fun _ h=>h) hS) hb7 q6x,?_⟩
   obtain ⟨t10,ht10,h⟩:=bnd h
   obtain ⟨q8x,yj,q8r⟩:=atE ht10
   refine Ac7 ((Ent.sl mp1).now (fun _ h=>h) hS) q8x yj q8r ?_;intro b9 hb9
   refine Aa5 hS ?_;intro w hS
   replace hS:=ro1 hS
   obtain ⟨t11,ht11,h⟩:=bnd h
   obtain rfl:=Aa0 ht11
   refine Bj9 hS hb9 q8r ?_;intro w hS
   refine Aa5 hS ?_;intro w hS
   obtain rfl:=Aa0 h
   exact hX _ rfl _ _ ⟨_,_,rfl,rfl,(hS.pick (A:=[_,_,_]) [1,0,0] rfl)⟩
  obtain rfl:=Aa0 h
  have h:=congrArg some (hO _ rfl)
  obtain rfl:=Aa0 h
  exact hJ3 _ _ ⟨_,rfl,rfl,(hS.pick (A:=[_,_,_]) [1,1] rfl)⟩
 clear h3 hS
 rintro s w ⟨t5,rfl,rfl,hS⟩
 have h:=c3
 clear c3
 try dsimp only
 replace hS:=ro1 hS
 obtain ⟨⟨t12,t13⟩,ho12,h⟩:=bnd h
 refine Ds6 H hS ho12 ?_;clear hS ho12;rintro a10 m10 c10 w hS
 refine ⟨_,rfl,?_⟩
 cases Aa0 h
 exact hK _ _ _ _ hS
theorem Dn5 {r_0 qb qc qe qg l0_1 u0} (hS:Ho w0 w L) (eq0:Ent L (cl r_0 [.bool qb,.slice qc qe qg] N.Ik4).A) (qn:EW L l0_1 qc qe qg) (h:Bo8 qb l0_1=some u0) (hK:∀ w1,Ho w0 w1 L→K (.int .u64 u0) w1):Aa1 P N.Ie2 #[.pointer (some ⟨r_0,0,none⟩)] w K:=by
 refine H.bI_Uint64 (some ⟨r_0,0,none⟩) w _ ?_
 unfold Df4
 unfold Bo8 at h
 try dsimp only
 refine Ad6 ?_
 refine ⟨_,_,_,(eq0.cel (fun _ h=>h) hS rfl),?_⟩
 obtain ⟨t1,ht1,h⟩:=bnd h
 obtain rfl:=An6 ht1 (qn.now (fun _ h=>h) hS)
 obtain ⟨o1,h1,c1⟩:=bnd h
 refine Ab0 (fun s w=>∃ (t2:Int),t2=o1∧s=(t2,())∧Ho w0 w L) (fun J1 hJ1=>?_) ?_
 ·
  have h:=h1
  clear h1
  refine Aa2 h ?_ ?_<;>intro hc h
  ·
   refine Ad6 ?_
   refine ⟨_,_,_,(eq0.cel (fun _ h=>h) hS rfl),?_⟩
   obtain ⟨t3,ht3,h⟩:=bnd h
   obtain ⟨q2x,qy,q2r⟩:=atE ht3
   refine Ac7 (qn.now (fun _ h=>h) hS) q2x qy q2r ?_;intro b3 hb3
   refine ⟨_,Ab4 (qn.now (fun _ h=>h) hS) hb3 q2x,?_⟩
   exact hJ1 _ _ ⟨_,Aa0 h,rfl,hS⟩
  exact hJ1 _ _ ⟨_,Aa0 h,rfl,hS⟩
 clear h1 hS
 rintro s w ⟨t2,rfl,rfl,hS⟩
 have h:=c1
 clear c1
 try dsimp only
 refine Ad6 ?_
 refine ⟨_,_,_,(eq0.cel (fun _ h=>h) hS rfl),?_⟩
 obtain ⟨t4,ht4,h⟩:=bnd h
 obtain rfl:=An6 ht4 (qn.now (fun _ h=>h) hS)
 obtain ⟨o4,h4,c4⟩:=bnd h
 refine Ab0 (fun s w=>∃ (t5:Int),t5=o4∧s=(t5,())∧Ho w0 w L) (fun J4 hJ4=>?_) ?_
 ·
  have h:=h4
  clear h4
  refine Aa2 h ?_ ?_<;>intro hc h
  ·
   refine Ad6 ?_
   refine ⟨_,_,_,(eq0.cel (fun _ h=>h) hS rfl),?_⟩
   obtain ⟨t6,ht6,h⟩:=bnd h
   obtain ⟨q5x,jc,q5r⟩:=atE ht6
   refine Ac7 (qn.now (fun _ h=>h) hS) q5x jc q5r ?_;intro b6 hb6
   refine ⟨_,Ab4 (qn.now (fun _ h=>h) hS) hb6 q5x,?_⟩
   refine ⟨by decide,?_⟩
   exact hJ4 _ _ ⟨_,Aa0 h,rfl,hS⟩
  exact hJ4 _ _ ⟨_,Aa0 h,rfl,hS⟩
 clear h4 hS
 rintro s w ⟨t5,rfl,rfl,hS⟩
 have h:=c4
 clear c4
 try dsimp only
 cases Aa0 h
 exact hK _ hS
theorem Cw5 {r_0} {b_0 s_0:Value} {q1 u0a u0b} (hS:Ho w0 w ((cl r_0 [b_0,s_0] N.Ik4)::L))  (h:Be1 q1=some (u0a,u0b)) (hK:∀ (a0:OA) (n0 c0:Nat) (w1:World),Ho w0 w1 ((cl r_0 [.bool u0a,.slice a0 n0 c0] N.Ik4)::(sl a0 n0 c0 (List.map (Value.int .u32) u0b) N.Il1)::L)→K (.pointer (some ⟨r_0,0,none⟩)) w1):Aa1 P N.Hy6 #[.pointer (some ⟨r_0,0,none⟩),.int .i64 q1] w K:=by
 refine H.bI_SetInt64 (some ⟨r_0,0,none⟩) q1 w _ ?_
 unfold Ci1
 unfold Be1 at h
 try dsimp only
 obtain ⟨o1,h1,c1⟩:=bnd h
 refine Ab0 (fun s w=>∃ (t1:Int),t1=o1∧s=(t1,())∧Ho w0 w ((cl r_0 [b_0,s_0] N.Ik4)::L)) (fun J1 hJ1=>?_) ?_
 ·
  have h:=h1
  clear h1
  refine Aa2 h ?_ ?_<;>intro hc h
  ·
   exact hJ1 _ _ ⟨_,Aa0 h,rfl,hS⟩
  exact hJ1 _ _ ⟨_,Aa0 h,rfl,hS⟩
 clear h1 hS
 rintro s w ⟨t1,rfl,rfl,hS⟩
 have h:=c1
 clear c1
 try dsimp only
 obtain ⟨t2,ht2,h⟩:=bnd h
 refine Di1 H hS  ht2 ?_;rintro a2 m2 c2 w hS
 refine ⟨_,_,_,rfl,?_⟩
 obtain ⟨t3,ht3,h⟩:=bnd h
 replace hS:=ro1 hS
 obtain rfl:=Aa0 ht3
 refine Bd3 H hS (Ent.sl mp1) ?_;intro w hS
 refine ⟨_,rfl,?_⟩
 cases Aa0 h
 exact hK _ _ _ _ hS
theorem Et2 {q0 qj qm l0 q1 qo qu l1 u0} (hS:Ho w0 w L) (qw:EW L l0 q0 qj qm) (ve:EW L l1 q1 qo qu) (h:Bw8 l0 l1=some u0) (hK:∀ w1,Ho w0 w1 L→K (.int .i64 u0) w1):Aa1 P N.Ij7 #[.slice q0 qj qm,.slice q1 qo qu] w K:=by
 refine H.bn_cmp q0 qj qm q1 qo qu w _ ?_
 unfold Fj5
 unfold Bw8 at h
 try dsimp only
 obtain ⟨t1,ht1,h⟩:=bnd h
 obtain rfl:=An6 ht1 (qw.now (fun _ h=>h) hS)
 obtain ⟨t2,ht2,h⟩:=bnd h
 obtain rfl:=An6 ht2 (ve.now (fun _ h=>h) hS)
 refine Aa2 h ?_ ?_<;>intro hc h
 ·
  obtain ⟨t3,ht3,h⟩:=bnd h
  obtain rfl:=An6 ht3 (qw.now (fun _ h=>h) hS)
  obtain ⟨t4,ht4,h⟩:=bnd h
  obtain rfl:=An6 ht4 (ve.now (fun _ h=>h) hS)
  refine Aa2 h ?_ ?_<;>intro hc h
  ·
   cases Aa0 h
   exact hK _ hS
  cases Aa0 h
  exact hK _ hS
 obtain ⟨t5,ht5,h⟩:=bnd h
 obtain rfl:=An6 ht5 (qw.now (fun _ h=>h) hS)
 obtain ⟨o1,h1,c1⟩:=bnd h
 refine Ab0 (fun s w =>  .inl ()=o1∧s=(())∧Ho w0 w L) (fun J1 hJ1=>?_) ?_
 ·
  have h:=h1
  clear h1
  refine Ab6 (fun s w t=>∃ (t6:Int),t6=t∧s=(t6,())∧Ho w0 w L) ?_ h ⟨_,rfl,rfl,hS⟩
  clear h hS
  rintro s w t X q ⟨t6,rfl,rfl,hS⟩ h hX hO
  unfold Ar8 at h
  try dsimp only
  refine Aa2 h ?_ ?_<;>intro hc h
  ·
   obtain ⟨t7,ht7,h⟩:=bnd h
   obtain ⟨q2x,qy,q2r⟩:=atE ht7
   refine Ac7 (qw.now (fun _ h=>h) hS) q2x qy q2r ?_;intro b3 hb3
   refine ⟨_,Ab4 (qw.now (fun _ h=>h) hS) hb3 q2x,?_⟩
   obtain ⟨t8,ht8,h⟩:=bnd h
   obtain ⟨q4x,yv,q4r⟩:=atE ht8
   refine Ac7 (ve.now (fun _ h=>h) hS) q4x yv q4r ?_;intro b5 hb5
   refine ⟨_,Ab4 (ve.now (fun _ h=>h) hS) hb5 q4x,?_⟩
   refine Aa5 hS ?_;intro w hS
   refine Aa2 h ?_ ?_<;>intro hc h
   ·
    obtain ⟨t9,ht9,h⟩:=bnd h
    obtain ⟨q6x,yh,q6r⟩:=atE ht9
    refine Ac7 (qw.now (fun _ h=>h) hS) q6x yh q6r ?_;intro b7 hb7
    refine ⟨_,Ab4 (qw.now (fun _ h=>h) hS) hb7 q6x,?_⟩
    obtain ⟨t10,ht10,h⟩:=bnd h
    obtain ⟨q8x,yj,q8r⟩:=atE ht10
    refine Ac7 (ve.now (fun _ h=>h) hS) q8x yj q8r ?_;intro b9 hb9
    refine ⟨_,Ab4 (ve.now (fun _ h=>h) hS) hb9 q8x,?_⟩
    refine Aa5 hS ?_;intro w hS
    refine Aa2 h ?_ ?_<;>intro hc h
    ·
     obtain rfl:=Aa0 h
     have h:=congrArg some (hO _ rfl)
     obtain rfl:=Aa0 h
     have h:=c1
     cases Aa0 h
     exact hK _ hS
    obtain rfl:=Aa0 h
    have h:=congrArg some (hO _ rfl)
    obtain rfl:=Aa0 h
    have h:=c1
    cases Aa0 h
    exact hK _ hS
   obtain rfl:=Aa0 h
   exact hX _ rfl _ _ ⟨_,rfl,rfl,hS⟩
  obtain rfl:=Aa0 h
  have h:=congrArg some (hO _ rfl)
  exact hJ1 _ _ ⟨Aa0 h,rfl,hS⟩
 clear h1 hS
 rintro s w ⟨rfl,rfl,hS⟩
 have h:=c1
 clear c1
 try dsimp only
 cases Aa0 h
 exact hK _ hS
theorem En7 {q0 q1 qo qu l1 q2 q3 vm ye l3 u0 u1} (hS:Ho w0 w L) (ve:EW L l1 q1 qo qu) (jk:EW L l3 q3 vm ye) (h:Bw1 q0 l1 q2 l3=some (u0,u1)) (hK:∀ (a1:OA) (n1 c1:Nat) (w1:World),Ho w0 w1 ((sl a1 n1 c1 (List.map (Value.int .u32) u1) N.Il1)::L)→K (.tuple #[.bool u0,.slice a1 n1 c1]) w1):Aa1 P N.Ik3 #[.bool q0,.slice q1 qo qu,.bool q2,.slice q3 vm ye] w K:=by
 refine H.bn_sum q0 q1 qo qu q2 q3 vm ye w _ ?_
 unfold Fk3
 unfold Bw1 at h
 try dsimp only
 refine Aa2 h ?_ ?_<;>intro hc h
 ·
  obtain ⟨t1,ht1,h⟩:=bnd h
  refine Dg6 H hS ve jk ht1 ?_;rintro a1 m1 c1 w hS
  refine ⟨_,_,_,rfl,?_⟩
  cases Aa0 h
  exact hK _ _ _ _ hS
 obtain ⟨t2,ht2,h⟩:=bnd h
 refine Et2 H hS ve jk ht2 ?_;rintro w hS
 refine ⟨_,rfl,?_⟩
 refine Aa2 h ?_ ?_<;>intro hc h
 ·
  obtain ⟨t3,ht3,h⟩:=bnd h
  refine Cj8 H hS ve jk ht3 ?_;rintro a2 m2 c2 w hS
  refine ⟨_,_,_,rfl,?_⟩
  cases Aa0 h
  exact hK _ _ _ _ hS
 obtain ⟨t4,ht4,h⟩:=bnd h
 refine Cj8 H hS jk ve ht4 ?_;rintro a3 m3 c3 w hS
 refine ⟨_,_,_,rfl,?_⟩
 cases Aa0 h
 exact hK _ _ _ _ hS
theorem Ed2 {r_0 ql qk qh qi l1_1 r_2 yf yg vr vt l2_1 u0a u0b} (hS:Ho w0 w ((cl r_0 [.bool ql,.slice qk qh qi] N.Ik4)::L)) (qv:EW L l1_1 qk qh qi) (eq2:Ent L (cl r_2 [.bool yf,.slice yg vr vt] N.Ik4).A) (vy:EW L l2_1 yg vr vt) (h:Cy6 ql l1_1 yf l2_1=some (u0a,u0b)) (hK:∀ (a0:OA) (n0 c0:Nat) (w1:World),Ho w0 w1 ((cl r_0 [.bool u0a,.slice a0 n0 c0] N.Ik4)::(sl a0 n0 c0 (List.map (Value.int .u32) u0b) N.Il1)::L)→K (.pointer (some ⟨r_0,0,none⟩)) w1):Aa1 P N.Ik1 #[.pointer (some ⟨r_0,0,none⟩),.pointer (some ⟨r_0,0,none⟩),.pointer (some ⟨r_2,0,none⟩)] w K:=by
 refine H.bI_Add (some ⟨r_0,0,none⟩) (some ⟨r_0,0,none⟩) (some ⟨r_2,0,none⟩) w _ ?_
 unfold Fg9
 unfold Cy6 at h
 try dsimp only
 refine Ad6 ?_
 refine ⟨_,hS.cel mp0 rfl,?_⟩
 refine Ad6 ?_
 refine ⟨_,_,_,hS.cel mp0 rfl,?_⟩
 refine Ad6 ?_
 refine ⟨_,(eq2.cel tl1 hS rfl),?_⟩
 refine Ad6 ?_
 refine ⟨_,_,_,(eq2.cel tl1 hS rfl),?_⟩
 refine Aa5 hS ?_;intro w hS
 obtain ⟨⟨t1,t2⟩,ho1,h⟩:=bnd h
 refine En7 H hS (qv.mono tl1) (vy.mono tl1) ho1 ?_;clear hS ho1;rintro a1 m1 c1 w hS
 refine ⟨_,_,_,_,rfl,?_⟩
 refine Aa5 hS ?_;intro w hS
 obtain ⟨t3,ht3,h⟩:=bnd h
 replace hS:=ro1 hS
 obtain rfl:=Aa0 ht3
 refine Bd3 H hS (Ent.sl mp1) ?_;intro w hS
 refine ⟨_,rfl,?_⟩
 refine Aa5 hS ?_;intro w hS
 cases Aa0 h
 exact hK _ _ _ _ hS
theorem Ea3 {r_0 ql qk qh qi l1_1 r_2 yf yg vr vt l2_1 u0a u0b} (hS:Ho w0 w ((cl r_0 [.bool ql,.slice qk qh qi] N.Ik4)::L)) (qv:EW L l1_1 qk qh qi) (eq2:Ent L (cl r_2 [.bool yf,.slice yg vr vt] N.Ik4).A) (vy:EW L l2_1 yg vr vt) (h:Cz0 ql l1_1 yf l2_1=some (u0a,u0b)) (hK:∀ (a0:OA) (n0 c0:Nat) (w1:World),Ho w0 w1 ((cl r_0 [.bool u0a,.slice a0 n0 c0] N.Ik4)::(sl a0 n0 c0 (List.map (Value.int .u32) u0b) N.Il1)::L)→K (.pointer (some ⟨r_0,0,none⟩)) w1):Aa1 P N.Il4 #[.pointer (some ⟨r_0,0,none⟩),.pointer (some ⟨r_0,0,none⟩),.pointer (some ⟨r_2,0,none⟩)] w K:=by
 refine H.bI_Sub (some ⟨r_0,0,none⟩) (some ⟨r_0,0,none⟩) (some ⟨r_2,0,none⟩) w _ ?_
 unfold Fk4
 unfold Cz0 at h
 try dsimp only
 refine Ad6 ?_
 refine ⟨_,hS.cel mp0 rfl,?_⟩
 refine Ad6 ?_
 refine ⟨_,_,_,hS.cel mp0 rfl,?_⟩
 refine Ad6 ?_
 refine ⟨_,(eq2.cel tl1 hS rfl),?_⟩
 refine Ad6 ?_
 refine ⟨_,_,_,(eq2.cel tl1 hS rfl),?_⟩
 refine Aa5 hS ?_;intro w hS
 obtain ⟨⟨t1,t2⟩,ho1,h⟩:=bnd h
 refine En7 H hS (qv.mono tl1) (vy.mono tl1) ho1 ?_;clear hS ho1;rintro a1 m1 c1 w hS
 refine ⟨_,_,_,_,rfl,?_⟩
 refine Aa5 hS ?_;intro w hS
 obtain ⟨t3,ht3,h⟩:=bnd h
 replace hS:=ro1 hS
 obtain rfl:=Aa0 ht3
 refine Bd3 H hS (Ent.sl mp1) ?_;intro w hS
 refine ⟨_,rfl,?_⟩
 refine Aa5 hS ?_;intro w hS
 cases Aa0 h
 exact hK _ _ _ _ hS
theorem Ej3 {r_0 qb qc qe qg l0_1 r_1 ql qk qh qi l1_1 u0} (hS:Ho w0 w L) (eq0:Ent L (cl r_0 [.bool qb,.slice qc qe qg] N.Ik4).A) (qn:EW L l0_1 qc qe qg) (eq1:Ent L (cl r_1 [.bool ql,.slice qk qh qi] N.Ik4).A) (qv:EW L l1_1 qk qh qi) (h:Cy8 qb l0_1 ql l1_1=some u0) (hK:∀ w1,Ho w0 w1 L→K (.int .i64 u0) w1):Aa1 P N.Ij8 #[.pointer (some ⟨r_0,0,none⟩),.pointer (some ⟨r_1,0,none⟩)] w K:=by
 refine H.bI_Cmp (some ⟨r_0,0,none⟩) (some ⟨r_1,0,none⟩) w _ ?_
 unfold Fh1
 unfold Cy8 at h
 try dsimp only
 refine Ad6 ?_
 refine ⟨_,(eq0.cel (fun _ h=>h) hS rfl),?_⟩
 refine Ad6 ?_
 refine ⟨_,(eq1.cel (fun _ h=>h) hS rfl),?_⟩
 refine Aa5 hS ?_;intro w hS
 refine Aa2 h ?_ ?_<;>intro hc h
 ·
  refine Ad6 ?_
  refine ⟨_,(eq0.cel (fun _ h=>h) hS rfl),?_⟩
  refine Aa2 h ?_ ?_<;>intro hc h
  ·
   cases Aa0 h
   exact hK _ hS
  cases Aa0 h
  exact hK _ hS
 refine Ad6 ?_
 refine ⟨_,_,_,(eq0.cel (fun _ h=>h) hS rfl),?_⟩
 refine Ad6 ?_
 refine ⟨_,_,_,(eq1.cel (fun _ h=>h) hS rfl),?_⟩
 refine Aa5 hS ?_;intro w hS
 obtain ⟨t1,ht1,h⟩:=bnd h
 refine Et2 H hS qn qv ht1 ?_;rintro w hS
 refine ⟨_,rfl,?_⟩
 refine Aa5 hS ?_;intro w hS
 refine Ad6 ?_
 refine ⟨_,(eq0.cel (fun _ h=>h) hS rfl),?_⟩
 refine Aa2 h ?_ ?_<;>intro hc h
 ·
  cases Aa0 h
  exact hK _ hS
 cases Aa0 h
 exact hK _ hS
end Go.Eng
