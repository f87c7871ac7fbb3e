/-
 Each function comes to what its function of plain Lean says, printed by a program of the session. No condition.
-/
import Derived.Test.YtgbilchfljlbeaaDoorWk1
set_option linter.all false
set_option maxRecDepth 100000
set_option maxHeartbeats 4000000
namespace Go.Eng
open Go
open Go.IntKind (i64 u64 u32 u8)
variable {N:Nums} {P:Program} (H:AllOk N P) {w0 w:World} {L:List It} {K:KV}
include H
theorem wk_p_w12_sums_adds {p x0 xa xn xc xl x2 ok d0 da dn dc dl d2 e z u0 u1 u2} (hS:Ho w0 w (cl p [.bool x0,.slice xa xn xc,.int .i64 x2,.bool ok] N.t_w12_sums::L)) (qv:EU L xl xa xn xc) (qy:EU L dl da dn dc) (hx:T_p_w12_sums_adds x0 xl x2 d0 dl d2 e z=some (u0,u1,u2)) (hK:∀ (a1:OA) (n1 c1:Nat) (w1:World),Ho w0 w1 (cl p [.bool u0,.slice a1 n1 c1,.int .i64 u2,.bool ok] N.t_w12_sums::sl a1 n1 c1 (List.map (Value.int .u64) u1) N.t_uint64::L)→K (.tuple #[]) w1):CallsX P N.f_p_w12_sums_adds #[.pointer (some ⟨p,0,none⟩),.agg #[.bool d0,.slice da dn dc,.int .i64 d2],.int .i64 e,.bool z] w K:=by
 refine H.p_w12_sums_adds (some ⟨p,0,none⟩) d0 da dn dc d2 e z w _ ?_
 unfold S_p_w12_sums_adds
 unfold T_p_w12_sums_adds at hx
 refine newM_s hS ?_;intro r1 w hS
 cases he:e==0 with
 | false=>rw [he] at hx;cases hx
 | true=>
 rw [he] at hx
 obtain rfl:e=0:=by simpa using he
 have h:=bnd (show Option.bind _ _=_ from hx)
 clear hx
 obtain ⟨⟨a,b,c⟩,h1,h⟩:=h
 dsimp only at h
 refine cutM_i (fun s w'=>s=(z,())∧w'=w) (fun J hJ=>hJ _ _ ⟨rfl,rfl⟩) ?_
 rintro s w' ⟨rfl,rfl⟩
 refine cutM_i (fun s w=>s=((0:Int),())∧∃ (L1:List It) (ya:OA) (yn yc:Nat),Ho w0 w (cl r1 [.bool a,.slice ya yn yc,.int .i64 c] N.t_Dyad::cl p [.bool x0,.slice xa xn xc,.int .i64 x2,.bool ok] N.t_w12_sums::L1)∧Ent L1 (rdA (List.map (Value.int .u64) xl) xa xn xc)∧Ent L1 (rdA (List.map (Value.int .u64) b) ya yn yc)∧∀ w1 A B,Ho w0 w1 (A::B::L1)→Ho w0 w1 (A::B::L)) (fun J6 hJ6=>?_) ?_
 ·
  cases z with
  | false=>
   cases some_inj (show some _=some _ from h1)
   exact hJ6 _ _ ⟨rfl,L,_,_,_,hS,qv,qy,fun _ _ _ h=>h⟩
  | true=>
   have h2:=bnd (show Option.bind _ _=_ from h1)
   clear h1
   obtain ⟨⟨n,f⟩,ht,h2⟩:=h2
   dsimp only at h2
   refine ⟨_,hS.cel mp0 rfl,?_⟩
   refine ⟨_,_,_,hS.cel mp0 rfl,?_⟩
   refine ⟨_,hS.cel mp0 rfl,?_⟩
   refine wk_dyad_Sign H hS (qy.mono tl2) ht ?_;intro w hS
   refine ⟨_,_,rfl,?_⟩
   cases hf:f==0 with
   | false=>rw [hf] at h2;cases h2
   | true=>
   rw [hf] at h2
   obtain rfl:f=0:=by simpa using hf
   cases hn:decide (n<0) with
   | false=>
    rw [hn] at h2
    cases some_inj (show some _=some _ from h2)
    rw [cF]
    refine cutM_i (fun s w'=>s=((0:Int),())∧w'=w) (fun J hJ=>hJ _ _ ⟨rfl,rfl⟩) ?_
    rintro s w' ⟨rfl,rfl⟩
    exact hJ6 _ _ ⟨rfl,L,_,_,_,hS,qv,qy,fun _ _ _ h=>h⟩
   | true=>
    rw [hn] at h2
    have h3:=bnd (show Option.bind _ _=_ from h2)
    clear h2
    obtain ⟨⟨a1,b1,c1,g1⟩,ht1,h3⟩:=h3
    dsimp only at h3
    cases hg:g1==0 with
    | false=>rw [hg] at h3;cases h3
    | true=>
    rw [hg] at h3
    obtain rfl:g1=0:=by simpa using hg
    cases some_inj (show some _=some _ from h3)
    rw [cT]
    refine cutM_i (fun s w=>s=((0:Int),())∧∃ (L1:List It) (ya:OA) (yn yc:Nat),Ho w0 w (cl r1 [.bool a,.slice ya yn yc,.int .i64 c] N.t_Dyad::cl p [.bool x0,.slice xa xn xc,.int .i64 x2,.bool ok] N.t_w12_sums::L1)∧Ent L1 (rdA (List.map (Value.int .u64) xl) xa xn xc)∧Ent L1 (rdA (List.map (Value.int .u64) b) ya yn yc)∧∀ w1 A B,Ho w0 w1 (A::B::L1)→Ho w0 w1 (A::B::L)) (fun J16 hJ16=>?_) ?_
    ·
     refine ⟨_,hS.cel mp0 rfl,?_⟩
     refine ⟨_,_,_,hS.cel mp0 rfl,?_⟩
     refine ⟨_,hS.cel mp0 rfl,?_⟩
     refine wk_dyad_Neg H hS (qy.mono tl2) ht1 ?_;intro a2 n2 c2 w hS
     refine ⟨_,_,_,_,_,_,rfl,?_⟩
     replace hS:=ro1 hS
     refine stc_s hS rfl rfl ?_;intro w hS
     refine stc_s hS rfl rfl ?_;intro w hS
     refine stc_s hS rfl rfl ?_;intro w hS
     replace hS:=ro2 hS
     replace hS:=ro1 hS
     exact hJ16 _ _ ⟨rfl,_,_,_,_,hS,qv.mono tl1,Ent.sl mp0,fun _ _ _ h=>h.pick (A:=[_,_,_]) [0,0] rfl⟩
    rintro s w ⟨rfl,L1,ya,yn,yc,hS,k0,k1,k2⟩
    exact hJ6 _ _ ⟨rfl,L1,ya,yn,yc,hS,k0,k1,k2⟩
 clear hS h1
 rintro s w ⟨rfl,L1,ya,yn,yc,hS,k0,k1,k2⟩
 have h2:=bnd h
 clear h
 obtain ⟨⟨v0,v1,v2,g⟩,ht,h⟩:=h2
 dsimp only at h
 cases hg:g==0 with
 | false=>rw [hg] at h;cases h
 | true=>
 rw [hg] at h
 obtain rfl:g=0:=by simpa using hg
 cases some_inj (show some _=some _ from h)
 refine cutM_i (fun s w=>s=((0:Int),())∧∃ (a2:OA) (n2 c2:Nat),Ho w0 w (cl r1 [.bool u0,.slice a2 n2 c2,.int .i64 u2] N.t_Dyad::sl a2 n2 c2 (List.map (Value.int .u64) u1) N.t_uint64::cl p [.bool x0,.slice xa xn xc,.int .i64 x2,.bool ok] N.t_w12_sums::L1)) (fun J34 hJ34=>?_) ?_
 ·
  refine optM_s ?_
  refine ⟨_,hS.cel mp1 rfl,?_⟩
  refine ⟨_,_,_,hS.cel mp1 rfl,?_⟩
  refine ⟨_,hS.cel mp1 rfl,?_⟩
  refine ⟨_,hS.cel mp0 rfl,?_⟩
  refine ⟨_,_,_,hS.cel mp0 rfl,?_⟩
  refine ⟨_,hS.cel mp0 rfl,?_⟩
  refine drM_s hS ?_;intro w hS
  refine wk_dyad_Add H hS (k0.mono tl2) (k1.mono tl2) ht ?_;intro a2 n2 c2 w hS
  refine ⟨_,_,_,_,_,_,rfl,?_⟩
  refine drM_s hS ?_;intro w hS
  replace hS:=ro1 hS
  refine stc_s hS rfl rfl ?_;intro w hS
  refine stc_s hS rfl rfl ?_;intro w hS
  refine stc_s hS rfl rfl ?_;intro w hS
  refine drM_s hS ?_;intro w hS
  exact hJ34 _ _ ⟨rfl,_,_,_,hS⟩
 clear hS
 rintro s w ⟨rfl,a2,n2,c2,hS⟩
 refine ⟨_,hS.cel mp0 rfl,?_⟩
 refine ⟨_,_,_,hS.cel mp0 rfl,?_⟩
 refine ⟨_,hS.cel mp0 rfl,?_⟩
 replace hS:=ro2 hS
 refine optM_s ?_
 refine stc_s hS rfl rfl ?_;intro w hS
 refine stc_s hS rfl rfl ?_;intro w hS
 refine stc_s hS rfl rfl ?_;intro w hS
 refine optM_s ?_
 refine ⟨_,hS.cel mp0 rfl,?_⟩
 have hS1:∀ w1,Ho w0 w1 (cl p [.bool u0,.slice a2 n2 c2,.int .i64 u2,.bool ok] N.t_w12_sums::cl r1 [.bool u0,.slice a2 n2 c2,.int .i64 u2] N.t_Dyad::sl a2 n2 c2 (List.map (Value.int .u64) u1) N.t_uint64::L1)→K (.tuple #[]) w1:=fun w1 h=>hK a2 n2 c2 w1 (k2 _ _ _ (h.pick (A:=[_,_,_]) [0,1] rfl))
 cases ok with
 | true=>
  refine optM_s ?_
  refine stc_s hS rfl rfl ?_;intro w hS
  exact hS1 _ hS
 | false=>
  refine optM_s ?_
  refine stc_s hS rfl rfl ?_;intro w hS
  exact hS1 _ hS
theorem wk_dyad_Scale {qa qb qc qd l0_1 qe q1 u0 u1 u2 u3} (hS:Ho w0 w L) (qh:EU L l0_1 qb qc qd) (h:T_dyad_Scale qa l0_1 qe q1=some (u0,u1,u2,u3)) (hK:∀ (a1:OA) (n1 c1:Nat) (w1:World),Ho w0 w1 ((sl a1 n1 c1 (List.map (Value.int .u64) u1) N.t_uint64)::L)→K (.tuple #[.agg #[.bool u0,.slice a1 n1 c1,.int .i64 u2],.int .i64 u3]) w1):CallsX P N.f_dyad_Scale #[.agg #[.bool qa,.slice qb qc qd,.int .i64 qe],.int .i64 q1] w K:=by
 refine H.dyad_Scale qa qb qc qd qe q1 w _ ?_
 unfold S_dyad_Scale
 unfold T_dyad_Scale at h
 try dsimp only
 refine newM_s hS ?_;intro r1 w hS
 refine newM_s hS ?_;intro r2 w hS
 refine ⟨_,hS.cel mp1 rfl,_,_,_,hS.cel mp1 rfl,_,hS.cel mp1 rfl,?_⟩
 obtain ⟨t1,ht1,h⟩:=bnd h
 refine wk_dyad_Right H hS (qh.mono tl2) ht1 ?_;rintro w hS
 refine ⟨_,rfl,?_⟩
 refine cond_s h ?_ ?_<;>intro hc h
 ·
  refine stc_s hS rfl rfl ?_;intro w hS
  refine stc_s hS rfl rfl ?_;intro w hS
  refine stc_s hS rfl rfl ?_;intro w hS
  refine ⟨_,hS.cel mp0 rfl,_,_,_,hS.cel mp0 rfl,_,hS.cel mp0 rfl,?_⟩
  replace hS:=hS.none (α:=Int) (enc:=(Value.int .u64)) (t:=N.t_uint64)
  cases some_inj h
  exact hK _ _ _ _ (hS.pick (A:=[_,_,_]) [0] rfl)
 refine ⟨_,_,_,hS.cel mp1 rfl,?_⟩
 obtain ⟨t2,ht2,h⟩:=bnd h
 obtain rfl:=lenE ht2 ((qh.mono tl2).now (fun _ h=>h) hS)
 refine cond_s h ?_ ?_<;>intro hc h
 ·
  refine stc_s hS rfl rfl ?_;intro w hS
  refine stc_s hS rfl rfl ?_;intro w hS
  refine stc_s hS rfl rfl ?_;intro w hS
  refine ⟨_,hS.cel mp0 rfl,_,_,_,hS.cel mp0 rfl,_,hS.cel mp0 rfl,?_⟩
  replace hS:=hS.none (α:=Int) (enc:=(Value.int .u64)) (t:=N.t_uint64)
  cases some_inj h
  exact hK _ _ _ _ (hS.pick (A:=[_,_,_]) [0] rfl)
 obtain ⟨o3,h3,c3⟩:=bnd h
 refine cutM_i (fun s w=>∃ (t3:Bool),t3=o3∧s=(t3,())∧Ho w0 w ((cl r2 [.bool false,.slice none 0 0,.int .i64 0] N.t_Dyad)::(cl r1 [.bool qa,.slice qb qc qd,.int .i64 qe] N.t_Dyad)::L)) (fun J3 hJ3=>?_) ?_
 ·
  have h:=h3
  clear h3
  refine cond_s h ?_ ?_<;>intro hc h
  ·
   exact hJ3 _ _ ⟨_,some_inj h,rfl,hS⟩
  exact hJ3 _ _ ⟨_,some_inj h,rfl,hS⟩
 clear h3 hS
 rintro s w ⟨t3,rfl,rfl,hS⟩
 have h:=c3
 clear c3
 try dsimp only
 refine cond_s h ?_ ?_<;>intro hc h
 ·
  refine stc_s hS rfl rfl ?_;intro w hS
  refine stc_s hS rfl rfl ?_;intro w hS
  refine stc_s hS rfl rfl ?_;intro w hS
  refine ⟨_,hS.cel mp0 rfl,_,_,_,hS.cel mp0 rfl,_,hS.cel mp0 rfl,?_⟩
  replace hS:=hS.none (α:=Int) (enc:=(Value.int .u64)) (t:=N.t_uint64)
  cases some_inj h
  exact hK _ _ _ _ (hS.pick (A:=[_,_,_]) [0] rfl)
 refine ⟨_,hS.cel mp1 rfl,_,_,_,hS.cel mp1 rfl,_,hS.cel mp1 rfl,_,hS.cel mp1 rfl,?_⟩
 refine drM_s hS ?_;intro w hS
 obtain ⟨t4,ht4,h⟩:=bnd h
 refine wk_dyad_whole H hS (qh.mono tl2) ht4 ?_;rintro r4 a4 m4 c4 w hS
 refine ⟨_,rfl,?_⟩
 refine ⟨(hS.cel mp2 rfl),?_⟩
 refine drM_s hS ?_;intro w hS
 obtain ⟨⟨t5,t6,t7,t8⟩,ho5,h⟩:=bnd h
 refine wk_dyad_made H hS (Ent.bg mp0) ho5 ?_;clear hS ho5;rintro a5 m5 c5 w hS
 refine ⟨_,_,_,_,_,_,rfl,?_⟩
 refine drM_s hS ?_;intro w hS
 replace hS:=ro2 hS
 refine stc_s hS rfl rfl ?_;intro w hS
 refine stc_s hS rfl rfl ?_;intro w hS
 refine stc_s hS rfl rfl ?_;intro w hS
 refine drM_s hS ?_;intro w hS
 refine ⟨_,hS.cel mp0 rfl,_,_,_,hS.cel mp0 rfl,_,hS.cel mp0 rfl,?_⟩
 cases some_inj h
 exact hK _ _ _ _ (hS.pick (A:=[_,_,_,_]) [1] rfl)
theorem wk_math_bits_Len64 {q0 u0} (hS:Ho w0 w L)  (hx:T_math_bits_Len64 q0=some u0) (hK:∀ w1,Ho w0 w1 L→K (.int .i64 u0) w1):CallsX P N.f_math_bits_Len64 #[.int .u64 q0] w K:=by
 unfold T_math_bits_Len64 at hx
 by_cases hd:0≤q0∧q0≤18446744073709551615
 ·
  rw [decide_eq_true hd] at hx
  have hx:=some_inj hx
  subst hx
  exact len64_c H hS hd.1 hd.2 hK
 rw [decide_eq_false hd] at hx;cases hx
theorem wk_dyad_top {qa qb qc qd l0_1 qe u0} (hS:Ho w0 w L) (qh:EU L l0_1 qb qc qd) (h:T_dyad_top qa l0_1 qe=some u0) (hK:∀ w1,Ho w0 w1 L→K (.int .i64 u0) w1):CallsX P N.f_dyad_top #[.agg #[.bool qa,.slice qb qc qd,.int .i64 qe]] w K:=by
 refine H.dyad_top qa qb qc qd qe w _ ?_
 unfold S_dyad_top
 unfold T_dyad_top at h
 try dsimp only
 refine newM_s hS ?_;intro r1 w hS
 refine ⟨_,_,_,hS.cel mp0 rfl,?_⟩
 obtain ⟨t1,ht1,h⟩:=bnd h
 obtain rfl:=lenE ht1 ((qh.mono tl1).now (fun _ h=>h) hS)
 refine ⟨_,hS.cel mp0 rfl,_,_,_,hS.cel mp0 rfl,?_⟩
 obtain ⟨t2,ht2,h⟩:=bnd h
 obtain ⟨q2x,vo,q2r⟩:=atE ht2
 refine idx_s ((qh.mono tl1).now (fun _ h=>h) hS) q2x vo q2r ?_;intro b3 hb3
 refine ⟨_,rd_get ((qh.mono tl1).now (fun _ h=>h) hS) hb3 q2x,?_⟩
 refine drM_s hS ?_;intro w hS
 obtain ⟨t3,ht3,h⟩:=bnd h
 refine wk_math_bits_Len64 H hS  ht3 ?_;rintro w hS
 refine ⟨_,rfl,?_⟩
 refine ⟨(hS.cel mp0 rfl),?_⟩
 refine drM_s hS ?_;intro w hS
 cases some_inj h
 exact hK _ (hS.pick (A:=[_]) [] rfl)
theorem wk_dyad_Cmp {qa qb qc qd l0_1 qe qk ql qi qj l1_1 qo u0 u1} (hS:Ho w0 w L) (qh:EU L l0_1 qb qc qd) (qq:EU L l1_1 ql qi qj) (h:T_dyad_Cmp qa l0_1 qe qk l1_1 qo=some (u0,u1)) (hK:∀ w1,Ho w0 w1 L→K (.tuple #[.int .i64 u0,.int .i64 u1]) w1):CallsX P N.f_dyad_Cmp #[.agg #[.bool qa,.slice qb qc qd,.int .i64 qe],.agg #[.bool qk,.slice ql qi qj,.int .i64 qo]] w K:=by
 refine H.dyad_Cmp qa qb qc qd qe qk ql qi qj qo w _ ?_
 unfold S_dyad_Cmp
 unfold T_dyad_Cmp at h
 try dsimp only
 refine newM_s hS ?_;intro r1 w hS
 refine newM_s hS ?_;intro r2 w hS
 refine ⟨_,hS.cel mp1 rfl,_,_,_,hS.cel mp1 rfl,_,hS.cel mp1 rfl,?_⟩
 obtain ⟨⟨t1,t2⟩,ho1,h⟩:=bnd h
 refine wk_dyad_Sign H hS (qh.mono tl2) ho1 ?_;clear hS ho1;rintro w hS
 refine ⟨_,_,rfl,?_⟩
 refine ⟨_,hS.cel mp0 rfl,_,_,_,hS.cel mp0 rfl,_,hS.cel mp0 rfl,?_⟩
 obtain ⟨⟨t3,t4⟩,ho3,h⟩:=bnd h
 refine wk_dyad_Sign H hS (qq.mono tl2) ho3 ?_;clear hS ho3;rintro w hS
 refine ⟨_,_,rfl,?_⟩
 obtain ⟨o3,h3,c3⟩:=bnd h
 refine cutM_i (fun s w=>∃ (t5:Bool),t5=o3∧s=(t5,())∧Ho w0 w ((cl r2 [.bool qk,.slice ql qi qj,.int .i64 qo] N.t_Dyad)::(cl r1 [.bool qa,.slice qb qc qd,.int .i64 qe] N.t_Dyad)::L)) (fun J3 hJ3=>?_) ?_
 ·
  have h:=h3
  clear h3
  refine cond_s h ?_ ?_<;>intro hc h
  ·
   exact hJ3 _ _ ⟨_,some_inj h,rfl,hS⟩
  exact hJ3 _ _ ⟨_,some_inj h,rfl,hS⟩
 clear h3 hS
 rintro s w ⟨t5,rfl,rfl,hS⟩
 have h:=c3
 clear c3
 try dsimp only
 refine cond_s h ?_ ?_<;>intro hc h
 ·
  cases some_inj h
  exact hK _ (hS.pick (A:=[_,_]) [] rfl)
 refine cond_s h ?_ ?_<;>intro hc h
 ·
  refine cond_s h ?_ ?_<;>intro hc h
  ·
   cases some_inj h
   exact hK _ (hS.pick (A:=[_,_]) [] rfl)
  cases some_inj h
  exact hK _ (hS.pick (A:=[_,_]) [] rfl)
 refine cond_s h ?_ ?_<;>intro hc h
 ·
  cases some_inj h
  exact hK _ (hS.pick (A:=[_,_]) [] rfl)
 refine ⟨_,hS.cel mp1 rfl,_,_,_,hS.cel mp1 rfl,_,hS.cel mp1 rfl,_,hS.cel mp0 rfl,_,_,_,hS.cel mp0 rfl,_,hS.cel mp0 rfl,?_⟩
 refine drM_s hS ?_;intro w hS
 obtain ⟨t6,ht6,h⟩:=bnd h
 refine wk_dyad_top H hS (qh.mono tl2) ht6 ?_;rintro w hS
 refine ⟨_,rfl,?_⟩
 refine ⟨(hS.cel mp0 rfl),?_⟩
 refine ⟨(hS.cel mp0 rfl),?_⟩
 refine ⟨(hS.cel mp0 rfl),?_⟩
 refine drM_s hS ?_;intro w hS
 obtain ⟨t7,ht7,h⟩:=bnd h
 refine wk_dyad_top H hS (qq.mono tl2) ht7 ?_;rintro w hS
 refine ⟨_,rfl,?_⟩
 refine drM_s hS ?_;intro w hS
 refine cond_s h ?_ ?_<;>intro hc h
 ·
  refine ⟨_,hS.cel mp1 rfl,_,_,_,hS.cel mp1 rfl,_,hS.cel mp1 rfl,_,hS.cel mp0 rfl,_,_,_,hS.cel mp0 rfl,_,hS.cel mp0 rfl,?_⟩
  refine drM_s hS ?_;intro w hS
  obtain ⟨t8,ht8,h⟩:=bnd h
  refine wk_dyad_top H hS (qh.mono tl2) ht8 ?_;rintro w hS
  refine ⟨_,rfl,?_⟩
  refine ⟨(hS.cel mp0 rfl),?_⟩
  refine ⟨(hS.cel mp0 rfl),?_⟩
  refine ⟨(hS.cel mp0 rfl),?_⟩
  refine drM_s hS ?_;intro w hS
  obtain ⟨t9,ht9,h⟩:=bnd h
  refine wk_dyad_top H hS (qq.mono tl2) ht9 ?_;rintro w hS
  refine ⟨_,rfl,?_⟩
  refine drM_s hS ?_;intro w hS
  refine cond_s h ?_ ?_<;>intro hc h
  ·
   cases some_inj h
   exact hK _ (hS.pick (A:=[_,_]) [] rfl)
  cases some_inj h
  exact hK _ (hS.pick (A:=[_,_]) [] rfl)
 refine ⟨_,hS.cel mp1 rfl,_,_,_,hS.cel mp1 rfl,_,hS.cel mp1 rfl,_,hS.cel mp0 rfl,_,_,_,hS.cel mp0 rfl,_,hS.cel mp0 rfl,?_⟩
 refine drM_s hS ?_;intro w hS
 obtain ⟨t10,ht10,h⟩:=bnd h
 refine wk_dyad_whole H hS (qh.mono tl2) ht10 ?_;rintro r4 a4 m4 c4 w hS
 refine ⟨_,rfl,?_⟩
 refine ⟨(hS.cel mp1 rfl),?_⟩
 refine ⟨(hS.cel mp1 rfl),?_⟩
 refine ⟨(hS.cel mp1 rfl),?_⟩
 refine drM_s hS ?_;intro w hS
 obtain ⟨t11,ht11,h⟩:=bnd h
 refine wk_dyad_whole H hS (qq.mono tl3) ht11 ?_;rintro r5 a5 m5 c5 w hS
 refine ⟨_,rfl,?_⟩
 refine drM_s hS ?_;intro w hS
 refine ⟨_,hS.cel mp3 rfl,_,hS.cel mp2 rfl,?_⟩
 obtain ⟨o12,h12,c12⟩:=bnd h
 refine cutM_i (fun s w=>∃ (a6:OA) (m7:Nat) (c8:Nat) (t12:Int) (a9:OA) (m10:Nat) (c11:Nat) (t13:Int),(t12,t13)=o12∧s=(())∧Ho w0 w ((bg N.t_bn_Int N.t_uint32 r4 a6 m7 c8 t12)::(bg N.t_bn_Int N.t_uint32 r5 a9 m10 c11 t13)::L)) (fun J12 hJ12=>?_) ?_
 ·
  have h:=h12
  clear h12
  refine cond_s h ?_ ?_<;>intro hc h
  ·
   refine ⟨_,hS.cel mp3 rfl,_,hS.cel mp2 rfl,?_⟩
   obtain ⟨t14,ht14,h⟩:=bnd h
   replace hS:=ro1 hS
   refine big_Lsh_zz H hS  ht14 ?_;intro a13 m13 c13 w hS
   refine ⟨_,rfl,?_⟩
   obtain rfl:=some_inj h
   exact hJ12 _ _ ⟨_,_,_,_,_,_,_,_,rfl,rfl,(hS.pick (A:=[_,_,_,_]) [0,0] rfl)⟩
  refine ⟨_,hS.cel mp2 rfl,_,hS.cel mp3 rfl,?_⟩
  obtain ⟨t15,ht15,h⟩:=bnd h
  refine big_Lsh_zz H hS  ht15 ?_;intro a14 m14 c14 w hS
  refine ⟨_,rfl,?_⟩
  obtain rfl:=some_inj h
  exact hJ12 _ _ ⟨_,_,_,_,_,_,_,_,rfl,rfl,(hS.pick (A:=[_,_,_,_]) [1,0] rfl)⟩
 clear h12 hS
 rintro s w ⟨a6,m7,c8,t12,a9,m10,c11,t13,rfl,rfl,hS⟩
 have h:=c12
 clear c12
 try dsimp only
 obtain ⟨t16,ht16,h⟩:=bnd h
 refine big_Cmp_xy H hS (Ent.bg mp0) (Ent.bg mp1) ht16 ?_;intro w hS
 refine ⟨_,rfl,?_⟩
 cases some_inj h
 exact hK _ (hS.pick (A:=[_,_]) [] rfl)
theorem wk_w12_near {qa qb qc qd qx qe qf qg qp q1 q2 q3 u0} (hS:Ho w0 w L) (qh:EF L qx qb qc qd) (qn:EF L qp qe qf qg) (hG:Ent L (tab64 N.g_1)) (h:T_w12_near qa (List.map nf qx) (List.map nf qp) q1 q2 (nf q3)=some u0) (hK:∀ w1,Ho w0 w1 L→K (.bool u0) w1):CallsX P N.f_w12_near #[.agg #[.int .i64 qa,.slice qb qc qd,.slice qe qf qg],.int .i64 q1,.int .i64 q2,.float .f64 q3] w K:=by
 refine H.w12_near qa qb qc qd qe qf qg q1 q2 q3 w _ ?_
 unfold S_w12_near
 unfold T_w12_near at h
 try dsimp only
 refine newM_s hS ?_;intro r1 w hS
 obtain ⟨⟨t1,t2,t3⟩,ho1,h⟩:=bnd h
 refine wk_dyad_Int H hS  ho1 ?_;clear hS ho1;rintro a2 m2 c2 w hS
 refine ⟨_,_,_,_,_,rfl,?_⟩
 replace hS:=ro1 hS
 have hz:Ent ((sl a2 m2 c2 (List.map (Value.int .u64) t2) N.t_uint64)::L) (rdA (List.map (Value.int .u64) t2) a2 m2 c2):=Ent.sl mp0
 have hK:∀ w1,Ho w0 w1 ((sl a2 m2 c2 (List.map (Value.int .u64) t2) N.t_uint64)::L)→K (.bool u0) w1:=fun w1 h=>hK w1 (h.pick (A:=[_]) [] rfl)
 have qh:Ent ((sl a2 m2 c2 (List.map (Value.int .u64) t2) N.t_uint64)::L) _:=qh.mono tl1
 have qn:Ent ((sl a2 m2 c2 (List.map (Value.int .u64) t2) N.t_uint64)::L) _:=qn.mono tl1
 have hG:Ent ((sl a2 m2 c2 (List.map (Value.int .u64) t2) N.t_uint64)::L) _:=hG.mono tl1
 generalize hL:((sl a2 m2 c2 (List.map (Value.int .u64) t2) N.t_uint64)::L)=L at hS hK qh qn hG hz
 refine newM_s hS ?_;intro r3 w hS
 refine stc_s hS rfl rfl ?_;intro w hS
 refine stc_s hS rfl rfl ?_;intro w hS
 refine stc_s hS rfl rfl ?_;intro w hS
 obtain ⟨o10,h10,c10⟩:=bnd h
 refine cutM_i (fun s w=>∃ (r4:Nat) (t4:Bool) (t5:Int) (r5:Nat) (r6:Nat) (a7:OA) (m8:Nat) (c9:Nat) (t6:List Int),(t4,t5,t6)=o10∧s=((some ⟨r6,0,none⟩),(some ⟨r5,0,none⟩),(some ⟨r4,0,none⟩),())∧Ho w0 w ((cl r4 [.bool t4,.slice a7 m8 c9,.int .i64 t5,.bool true] N.t_w12_sums)::(sl a7 m8 c9 (List.map (Value.int .u64) t6) N.t_uint64)::(cl r5 [.bool t1,.slice a2 m2 c2,.int .i64 t3,.bool true] N.t_w12_sums)::(cl r6 [.bool t1,.slice a2 m2 c2,.int .i64 t3,.bool true] N.t_w12_sums)::(cl r3 [.bool t1,.slice a2 m2 c2,.int .i64 t3] N.t_Dyad)::(cl r1 [.int .i64 qa,.slice qb qc qd,.slice qe qf qg] N.t_Factor)::L)) (fun J10 hJ10=>?_) ?_
 ·
  have h:=h10
  clear h10
  refine ⟨_,hS.cel mp0 rfl,_,_,_,hS.cel mp0 rfl,_,hS.cel mp0 rfl,_,hS.cel mp0 rfl,_,_,_,hS.cel mp0 rfl,_,hS.cel mp0 rfl,?_⟩
  refine ⟨?_,?_,?_⟩
  ·
   refine drM_s hS ?_;intro w hS
   refine newM_s hS ?_;intro r11 w hS
   refine ⟨(hS.cel mp1 rfl),?_⟩
   refine ⟨(hS.cel mp1 rfl),?_⟩
   refine ⟨(hS.cel mp1 rfl),?_⟩
   refine ⟨?_,?_⟩
   ·
    refine drM_s hS ?_;intro w hS
    refine newM_s hS ?_;intro r12 w hS
    refine drM_s hS ?_;intro w hS
    obtain ⟨⟨t7,t8,t9⟩,ho7,h⟩:=bnd h
    refine wk_dyad_Int H hS  ho7 ?_;clear hS ho7;rintro a13 m13 c13 w hS
    refine ⟨_,_,_,_,_,rfl,?_⟩
    refine drM_s hS ?_;intro w hS
    refine newM_s hS ?_;intro r14 w hS
    refine drM_s hS ?_;intro w hS
    exact hJ10 _ _ ⟨_,_,_,_,_,_,_,_,_,some_inj h,rfl,hS⟩
   refine drM_s hS ?_;intro w hS
   obtain ⟨⟨t7,t8,t9⟩,ho7,h⟩:=bnd h
   refine wk_dyad_Int H hS  ho7 ?_;clear hS ho7;rintro a15 m15 c15 w hS
   refine ⟨_,_,_,_,_,rfl,?_⟩
   refine ⟨(hS.cel mp2 rfl),?_⟩
   refine ⟨(hS.cel mp2 rfl),?_⟩
   refine ⟨(hS.cel mp2 rfl),?_⟩
   refine ⟨?_,?_⟩
   ·
    refine drM_s hS ?_;intro w hS
    refine newM_s hS ?_;intro r16 w hS
    refine drM_s hS ?_;intro w hS
    refine newM_s hS ?_;intro r17 w hS
    refine drM_s hS ?_;intro w hS
    obtain rfl:=some_inj h
    exact hJ10 _ _ ⟨_,_,_,_,_,_,_,_,_,rfl,rfl,(hS.pick (A:=[_,_,_,_,_,_]) [0,1,0,0,0,0] rfl)⟩
   refine drM_s hS ?_;intro w hS
   refine newM_s hS ?_;intro r18 w hS
   refine ⟨(hS.cel mp3 rfl),?_⟩
   refine ⟨(hS.cel mp3 rfl),?_⟩
   refine ⟨(hS.cel mp3 rfl),?_⟩
   refine drM_s hS ?_;intro w hS
   refine newM_s hS ?_;intro r19 w hS
   refine drM_s hS ?_;intro w hS
   obtain rfl:=some_inj h
   exact hJ10 _ _ ⟨_,_,_,_,_,_,_,_,_,rfl,rfl,(hS.pick (A:=[_,_,_,_,_,_]) [1,1,0,0,0,0] rfl)⟩
  ·
   refine drM_s hS ?_;intro w hS
   refine newM_s hS ?_;intro r20 w hS
   refine ⟨(hS.cel mp1 rfl),?_⟩
   refine ⟨(hS.cel mp1 rfl),?_⟩
   refine ⟨(hS.cel mp1 rfl),?_⟩
   refine ⟨?_,?_⟩
   ·
    refine drM_s hS ?_;intro w hS
    refine newM_s hS ?_;intro r21 w hS
    refine drM_s hS ?_;intro w hS
    obtain ⟨⟨t7,t8,t9⟩,ho7,h⟩:=bnd h
    refine wk_dyad_Int H hS  ho7 ?_;clear hS ho7;rintro a22 m22 c22 w hS
    refine ⟨_,_,_,_,_,rfl,?_⟩
    refine drM_s hS ?_;intro w hS
    refine newM_s hS ?_;intro r23 w hS
    refine drM_s hS ?_;intro w hS
    obtain rfl:=some_inj h
    exact hJ10 _ _ ⟨_,_,_,_,_,_,_,_,_,rfl,rfl,(hS.pick (A:=[_,_,_,_,_,_]) [0,0,1,0,0,0] rfl)⟩
   refine drM_s hS ?_;intro w hS
   obtain ⟨⟨t7,t8,t9⟩,ho7,h⟩:=bnd h
   refine wk_dyad_Int H hS  ho7 ?_;clear hS ho7;rintro a24 m24 c24 w hS
   refine ⟨_,_,_,_,_,rfl,?_⟩
   refine ⟨(hS.cel mp2 rfl),?_⟩
   refine ⟨(hS.cel mp2 rfl),?_⟩
   refine ⟨(hS.cel mp2 rfl),?_⟩
   refine ⟨?_,?_⟩
   ·
    refine drM_s hS ?_;intro w hS
    refine newM_s hS ?_;intro r25 w hS
    refine drM_s hS ?_;intro w hS
    refine newM_s hS ?_;intro r26 w hS
    refine drM_s hS ?_;intro w hS
    obtain rfl:=some_inj h
    exact hJ10 _ _ ⟨_,_,_,_,_,_,_,_,_,rfl,rfl,(hS.pick (A:=[_,_,_,_,_,_]) [0,1,1,0,0,0] rfl)⟩
   refine drM_s hS ?_;intro w hS
   refine newM_s hS ?_;intro r27 w hS
   refine ⟨(hS.cel mp3 rfl),?_⟩
   refine ⟨(hS.cel mp3 rfl),?_⟩
   refine ⟨(hS.cel mp3 rfl),?_⟩
   refine drM_s hS ?_;intro w hS
   refine newM_s hS ?_;intro r28 w hS
   refine drM_s hS ?_;intro w hS
   obtain rfl:=some_inj h
   exact hJ10 _ _ ⟨_,_,_,_,_,_,_,_,_,rfl,rfl,(hS.pick (A:=[_,_,_,_,_,_]) [1,1,1,0,0,0] rfl)⟩
  refine drM_s hS ?_;intro w hS
  obtain ⟨⟨t7,t8,t9⟩,ho7,h⟩:=bnd h
  refine wk_dyad_Int H hS  ho7 ?_;clear hS ho7;rintro a29 m29 c29 w hS
  refine ⟨_,_,_,_,_,rfl,?_⟩
  refine ⟨(hS.cel mp1 rfl),?_⟩
  refine ⟨(hS.cel mp1 rfl),?_⟩
  refine ⟨(hS.cel mp1 rfl),?_⟩
  refine ⟨(hS.cel mp1 rfl),?_⟩
  refine ⟨(hS.cel mp1 rfl),?_⟩
  refine ⟨(hS.cel mp1 rfl),?_⟩
  refine ⟨?_,?_,?_⟩
  ·
   refine drM_s hS ?_;intro w hS
   refine newM_s hS ?_;intro r30 w hS
   refine ⟨(hS.cel mp2 rfl),?_⟩
   refine ⟨(hS.cel mp2 rfl),?_⟩
   refine ⟨(hS.cel mp2 rfl),?_⟩
   refine ⟨?_,?_⟩
   ·
    refine drM_s hS ?_;intro w hS
    refine newM_s hS ?_;intro r31 w hS
    refine drM_s hS ?_;intro w hS
    refine newM_s hS ?_;intro r32 w hS
    refine drM_s hS ?_;intro w hS
    obtain rfl:=some_inj h
    exact hJ10 _ _ ⟨_,_,_,_,_,_,_,_,_,rfl,rfl,(hS.pick (A:=[_,_,_,_,_,_]) [0,2,0,0,0,0] rfl)⟩
   refine drM_s hS ?_;intro w hS
   refine newM_s hS ?_;intro r33 w hS
   refine ⟨(hS.cel mp3 rfl),?_⟩
   refine ⟨(hS.cel mp3 rfl),?_⟩
   refine ⟨(hS.cel mp3 rfl),?_⟩
   refine drM_s hS ?_;intro w hS
   refine newM_s hS ?_;intro r34 w hS
   refine drM_s hS ?_;intro w hS
   obtain rfl:=some_inj h
   exact hJ10 _ _ ⟨_,_,_,_,_,_,_,_,_,rfl,rfl,(hS.pick (A:=[_,_,_,_,_,_]) [1,2,0,0,0,0] rfl)⟩
  ·
   refine drM_s hS ?_;intro w hS
   refine newM_s hS ?_;intro r35 w hS
   refine ⟨(hS.cel mp2 rfl),?_⟩
   refine ⟨(hS.cel mp2 rfl),?_⟩
   refine ⟨(hS.cel mp2 rfl),?_⟩
   refine ⟨?_,?_⟩
   ·
    refine drM_s hS ?_;intro w hS
    refine newM_s hS ?_;intro r36 w hS
    refine drM_s hS ?_;intro w hS
    refine newM_s hS ?_;intro r37 w hS
    refine drM_s hS ?_;intro w hS
    obtain rfl:=some_inj h
    exact hJ10 _ _ ⟨_,_,_,_,_,_,_,_,_,rfl,rfl,(hS.pick (A:=[_,_,_,_,_,_]) [0,2,1,0,0,0] rfl)⟩
   refine drM_s hS ?_;intro w hS
   refine newM_s hS ?_;intro r38 w hS
   refine ⟨(hS.cel mp3 rfl),?_⟩
   refine ⟨(hS.cel mp3 rfl),?_⟩
   refine ⟨(hS.cel mp3 rfl),?_⟩
   refine drM_s hS ?_;intro w hS
   refine newM_s hS ?_;intro r39 w hS
   refine drM_s hS ?_;intro w hS
   obtain rfl:=some_inj h
   exact hJ10 _ _ ⟨_,_,_,_,_,_,_,_,_,rfl,rfl,(hS.pick (A:=[_,_,_,_,_,_]) [1,2,1,0,0,0] rfl)⟩
  refine drM_s hS ?_;intro w hS
  refine newM_s hS ?_;intro r40 w hS
  refine ⟨(hS.cel mp2 rfl),?_⟩
  refine ⟨(hS.cel mp2 rfl),?_⟩
  refine ⟨(hS.cel mp2 rfl),?_⟩
  refine ⟨(hS.cel mp2 rfl),?_⟩
  refine ⟨(hS.cel mp2 rfl),?_⟩
  refine ⟨(hS.cel mp2 rfl),?_⟩
  refine ⟨?_,?_⟩
  ·
   refine drM_s hS ?_;intro w hS
   refine newM_s hS ?_;intro r41 w hS
   refine ⟨(hS.cel mp3 rfl),?_⟩
   refine ⟨(hS.cel mp3 rfl),?_⟩
   refine ⟨(hS.cel mp3 rfl),?_⟩
   refine drM_s hS ?_;intro w hS
   refine newM_s hS ?_;intro r42 w hS
   refine drM_s hS ?_;intro w hS
   obtain rfl:=some_inj h
   exact hJ10 _ _ ⟨_,_,_,_,_,_,_,_,_,rfl,rfl,(hS.pick (A:=[_,_,_,_,_,_]) [2,2,0,0,0,0] rfl)⟩
  refine drM_s hS ?_;intro w hS
  refine newM_s hS ?_;intro r43 w hS
  refine ⟨(hS.cel mp3 rfl),?_⟩
  refine ⟨(hS.cel mp3 rfl),?_⟩
  refine ⟨(hS.cel mp3 rfl),?_⟩
  refine drM_s hS ?_;intro w hS
  refine newM_s hS ?_;intro r44 w hS
  refine drM_s hS ?_;intro w hS
  obtain rfl:=some_inj h
  exact hJ10 _ _ ⟨_,_,_,_,_,_,_,_,_,rfl,rfl,(hS.pick (A:=[_,_,_,_,_,_]) [2,2,1,0,0,0] rfl)⟩
 clear h10 hS
 rintro s w ⟨r4,t4,t5,r5,r6,a7,m8,c9,t6,rfl,rfl,hS⟩
 have h:=c10
 clear c10
 try dsimp only
 obtain ⟨o58,h58,c58⟩:=bnd h
 refine cutM_i (fun s w=>∃ (t10:Bool) (t11:Int) (t12:Bool) (t13:Int) (t14:Bool) (t15:Int) (a45:OA) (m46:Nat) (c47:Nat) (t16:List Int) (a48:OA) (m49:Nat) (c50:Nat) (t17:List Int) (it51:It) (a53:OA) (m54:Nat) (c55:Nat) (t18:List Int) (it56:It),(t10,t11,t12,t13,t14,t15,t16,t17,t18)=o58∧s=(())∧Ent (it51::L) (rdA (List.map (Value.int .u64) t17) a48 m49 c50)∧Ent (it56::L) (rdA (List.map (Value.int .u64) t18) a53 m54 c55)∧Ho w0 w ((cl r4 [.bool t10,.slice a45 m46 c47,.int .i64 t11,.bool true] N.t_w12_sums)::(cl r5 [.bool t12,.slice a48 m49 c50,.int .i64 t13,.bool true] N.t_w12_sums)::(cl r6 [.bool t14,.slice a53 m54 c55,.int .i64 t15,.bool true] N.t_w12_sums)::(cl r3 [.bool t1,.slice a2 m2 c2,.int .i64 t3] N.t_Dyad)::(cl r1 [.int .i64 qa,.slice qb qc qd,.slice qe qf qg] N.t_Factor)::(sl a45 m46 c47 (List.map (Value.int .u64) t16) N.t_uint64)::it51::it56::L)) (fun J58 hJ58=>?_) ?_
 ·
  have h:=h58
  clear h58
  replace hS:=hS.voidItem
  replace hS:=hS.voidItem
  refine iter_sim (fun s w t=>∃ (t19:Int) (t20:Bool) (t21:Int) (t22:Bool) (t23:Int) (t24:Bool) (t25:Int) (a59:OA) (m60:Nat) (c61:Nat) (t26:List Int) (a62:OA) (m63:Nat) (c64:Nat) (t27:List Int) (it65:It) (a67:OA) (m68:Nat) (c69:Nat) (t28:List Int) (it70:It),(t19,t20,t21,t22,t23,t24,t25,t26,t27,t28)=t∧s=(t19,())∧Ent (it65::L) (rdA (List.map (Value.int .u64) t27) a62 m63 c64)∧Ent (it70::L) (rdA (List.map (Value.int .u64) t28) a67 m68 c69)∧Ho w0 w ((cl r4 [.bool t20,.slice a59 m60 c61,.int .i64 t21,.bool true] N.t_w12_sums)::(cl r5 [.bool t22,.slice a62 m63 c64,.int .i64 t23,.bool true] N.t_w12_sums)::(cl r6 [.bool t24,.slice a67 m68 c69,.int .i64 t25,.bool true] N.t_w12_sums)::(cl r3 [.bool t1,.slice a2 m2 c2,.int .i64 t3] N.t_Dyad)::(cl r1 [.int .i64 qa,.slice qb qc qd,.slice qe qf qg] N.t_Factor)::(sl a59 m60 c61 (List.map (Value.int .u64) t26) N.t_uint64)::it65::it70::L)) ?_ h ⟨_,_,_,_,_,_,_,_,_,_,_,_,_,_,_,_,_,_,_,_,_,rfl,rfl,(hz.mono tl1),(hz.mono tl1),(hS.pick (A:=[_,_,_,_,_,_,_,_]) [2,3,3,3,3,2,1,0] rfl)⟩
  clear h hS
  rintro s w t X q ⟨t19,t20,t21,t22,t23,t24,t25,a59,m60,c61,t26,a62,m63,c64,t27,it65,a67,m68,c69,t28,it70,rfl,rfl,e66,e71,hS⟩ h hX hO
  unfold T_w12_near_b2 at h
  try dsimp only
  refine cond_s h ?_ ?_<;>intro hc h
  ·
   obtain ⟨o81,h81,c81⟩:=bnd h
   refine cutM_i (fun s w=>∃ (t29:Bool) (t30:Int) (t31:Bool) (t32:Int) (t33:Bool) (t34:Int) (a72:OA) (m73:Nat) (c74:Nat) (t35:List Int) (a75:OA) (m76:Nat) (c77:Nat) (t36:List Int) (a78:OA) (m79:Nat) (c80:Nat) (t37:List Int),(t29,t30,t31,t32,t33,t34,t35,t36,t37)=o81∧s=(())∧Ho w0 w ((cl r4 [.bool t29,.slice a78 m79 c80,.int .i64 t30,.bool true] N.t_w12_sums)::(cl r5 [.bool t31,.slice a72 m73 c74,.int .i64 t32,.bool true] N.t_w12_sums)::(sl a72 m73 c74 (List.map (Value.int .u64) t35) N.t_uint64)::(cl r6 [.bool t33,.slice a75 m76 c77,.int .i64 t34,.bool true] N.t_w12_sums)::(sl a75 m76 c77 (List.map (Value.int .u64) t36) N.t_uint64)::(cl r3 [.bool t1,.slice a2 m2 c2,.int .i64 t3] N.t_Dyad)::(cl r1 [.int .i64 qa,.slice qb qc qd,.slice qe qf qg] N.t_Factor)::(sl a78 m79 c80 (List.map (Value.int .u64) t37) N.t_uint64)::L)) (fun J81 hJ81=>?_) ?_
   ·
    have h:=h81
    clear h81
    obtain ⟨o86,h86,c86⟩:=bnd h
    refine cutM_i (fun s w=>∃ (t38:Int) (r82:Nat) (t39:Bool) (t40:Int) (a83:OA) (m84:Nat) (c85:Nat) (t41:List Int),(t38,t39,t40,t41)=o86∧s=((some ⟨r82,0,none⟩),t38,())∧Ho w0 w ((cl r82 [.bool t39,.slice a83 m84 c85,.int .i64 t40] N.t_Dyad)::(sl a83 m84 c85 (List.map (Value.int .u64) t41) N.t_uint64)::(cl r4 [.bool t20,.slice a59 m60 c61,.int .i64 t21,.bool true] N.t_w12_sums)::(cl r5 [.bool t22,.slice a62 m63 c64,.int .i64 t23,.bool true] N.t_w12_sums)::(cl r6 [.bool t24,.slice a67 m68 c69,.int .i64 t25,.bool true] N.t_w12_sums)::(cl r3 [.bool t1,.slice a2 m2 c2,.int .i64 t3] N.t_Dyad)::(cl r1 [.int .i64 qa,.slice qb qc qd,.slice qe qf qg] N.t_Factor)::(sl a59 m60 c61 (List.map (Value.int .u64) t26) N.t_uint64)::it65::it70::L)) (fun J86 hJ86=>?_) ?_
    ·
     have h:=h86
     clear h86
     refine ⟨_,hS.cel mp4 rfl,_,_,_,hS.cel mp4 rfl,_,_,_,hS.cel mp4 rfl,_,_,_,hS.cel mp4 rfl,?_⟩
     obtain ⟨t42,ht42,h⟩:=bnd h
     obtain ⟨z87,rfl,q88x,zs,q88r⟩:=atF ht42
     refine idx_s ((qn.mono tl8).now (fun _ h=>h) hS) q88x zs q88r ?_;intro b89 hb89
     refine ⟨_,rd_get ((qn.mono tl8).now (fun _ h=>h) hS) hb89 q88x,?_⟩
     refine ⟨_,hS.cel mp4 rfl,_,_,_,hS.cel mp4 rfl,_,_,_,hS.cel mp4 rfl,?_⟩
     refine ⟨?_,?_⟩
     ·
      refine drM_s hS ?_;intro w hS
      obtain ⟨t43,ht43,h⟩:=bnd h
      refine wk_w12_at H hS (qh.mono tl8) (qn.mono tl8) ht43 ?_;rintro z90 w rfl hS
      refine ⟨_,rfl,?_⟩
      refine ⟨(hS.cel mp4 rfl),?_⟩
      refine ⟨(hS.cel mp4 rfl),?_⟩
      refine ⟨(hS.cel mp4 rfl),?_⟩
      refine ⟨rd_get ((qn.mono tl8).now (fun _ h=>h) hS) hb89 q88x,?_⟩
      refine ⟨(hS.cel mp4 rfl),?_⟩
      refine ⟨?_,?_⟩
      ·
       refine drM_s hS ?_;intro w hS
       obtain ⟨t44,ht44,h⟩:=bnd h
       refine wk_w12_at H hS (qh.mono tl8) (qn.mono tl8) ht44 ?_;rintro z91 w rfl hS
       refine ⟨_,rfl,?_⟩
       refine ⟨rd_get ((qn.mono tl8).now (fun _ h=>h) hS) hb89 q88x,?_⟩
       refine ⟨(hS.cel mp4 rfl),?_⟩
       refine ⟨?_,?_⟩
       ·
        refine drM_s hS ?_;intro w hS
        obtain ⟨⟨t45,t46,t47,t48⟩,ho45,h⟩:=bnd h
        refine wk_w12_product H hS (hG.mono tl8) ho45 ?_;clear hS ho45;rintro a92 m92 c92 w hS
        refine ⟨_,_,_,_,_,_,rfl,?_⟩
        refine drM_s hS ?_;intro w hS
        refine newM_s hS ?_;intro r93 w hS
        refine drM_s hS ?_;intro w hS
        refine stc_s hS rfl rfl ?_;intro w hS
        refine stc_s hS rfl rfl ?_;intro w hS
        refine stc_s hS rfl rfl ?_;intro w hS
        refine drM_s hS ?_;intro w hS
        exact hJ86 _ _ ⟨_,_,_,_,_,_,_,_,some_inj h,rfl,hS⟩
       refine drM_s hS ?_;intro w hS
       refine newM_s hS ?_;intro r94 w hS
       refine ⟨rd_get ((qn.mono tl9).now (fun _ h=>h) hS) hb89 q88x,?_⟩
       refine ⟨(hS.cel mp5 rfl),?_⟩
       refine drM_s hS ?_;intro w hS
       obtain ⟨⟨t45,t46,t47,t48⟩,ho45,h⟩:=bnd h
       refine wk_w12_product H hS (hG.mono tl9) ho45 ?_;clear hS ho45;rintro a95 m95 c95 w hS
       refine ⟨_,_,_,_,_,_,rfl,?_⟩
       refine drM_s hS ?_;intro w hS
       replace hS:=ro1 hS
       refine stc_s hS rfl rfl ?_;intro w hS
       refine stc_s hS rfl rfl ?_;intro w hS
       refine stc_s hS rfl rfl ?_;intro w hS
       refine drM_s hS ?_;intro w hS
       exact hJ86 _ _ ⟨_,_,_,_,_,_,_,_,some_inj h,rfl,hS⟩
      refine drM_s hS ?_;intro w hS
      refine newM_s hS ?_;intro r96 w hS
      refine ⟨(hS.cel mp5 rfl),?_⟩
      refine ⟨(hS.cel mp5 rfl),?_⟩
      refine ⟨(hS.cel mp5 rfl),?_⟩
      refine ⟨rd_get ((qn.mono tl9).now (fun _ h=>h) hS) hb89 q88x,?_⟩
      refine ⟨(hS.cel mp5 rfl),?_⟩
      refine drM_s hS ?_;intro w hS
      obtain ⟨t44,ht44,h⟩:=bnd h
      refine wk_w12_at H hS (qh.mono tl9) (qn.mono tl9) ht44 ?_;rintro z97 w rfl hS
      refine ⟨_,rfl,?_⟩
      refine ⟨rd_get ((qn.mono tl9).now (fun _ h=>h) hS) hb89 q88x,?_⟩
      refine ⟨(hS.cel mp5 rfl),?_⟩
      refine drM_s hS ?_;intro w hS
      obtain ⟨⟨t45,t46,t47,t48⟩,ho45,h⟩:=bnd h
      refine wk_w12_product H hS (hG.mono tl9) ho45 ?_;clear hS ho45;rintro a98 m98 c98 w hS
      refine ⟨_,_,_,_,_,_,rfl,?_⟩
      refine drM_s hS ?_;intro w hS
      replace hS:=ro1 hS
      refine stc_s hS rfl rfl ?_;intro w hS
      refine stc_s hS rfl rfl ?_;intro w hS
      refine stc_s hS rfl rfl ?_;intro w hS
      refine drM_s hS ?_;intro w hS
      exact hJ86 _ _ ⟨_,_,_,_,_,_,_,_,some_inj h,rfl,hS⟩
     refine drM_s hS ?_;intro w hS
     refine newM_s hS ?_;intro r99 w hS
     refine ⟨(hS.cel mp5 rfl),?_⟩
     refine ⟨(hS.cel mp5 rfl),?_⟩
     refine ⟨(hS.cel mp5 rfl),?_⟩
     refine ⟨rd_get ((qn.mono tl9).now (fun _ h=>h) hS) hb89 q88x,?_⟩
     refine ⟨(hS.cel mp5 rfl),?_⟩
     refine ⟨(hS.cel mp5 rfl),?_⟩
     refine ⟨(hS.cel mp5 rfl),?_⟩
     refine ⟨(hS.cel mp5 rfl),?_⟩
     refine drM_s hS ?_;intro w hS
     obtain ⟨t43,ht43,h⟩:=bnd h
     refine wk_w12_at H hS (qh.mono tl9) (qn.mono tl9) ht43 ?_;rintro z100 w rfl hS
     refine ⟨_,rfl,?_⟩
     refine ⟨(hS.cel mp5 rfl),?_⟩
     refine ⟨(hS.cel mp5 rfl),?_⟩
     refine ⟨(hS.cel mp5 rfl),?_⟩
     refine ⟨rd_get ((qn.mono tl9).now (fun _ h=>h) hS) hb89 q88x,?_⟩
     refine ⟨(hS.cel mp5 rfl),?_⟩
     refine drM_s hS ?_;intro w hS
     obtain ⟨t44,ht44,h⟩:=bnd h
     refine wk_w12_at H hS (qh.mono tl9) (qn.mono tl9) ht44 ?_;rintro z101 w rfl hS
     refine ⟨_,rfl,?_⟩
     refine ⟨rd_get ((qn.mono tl9).now (fun _ h=>h) hS) hb89 q88x,?_⟩
     refine ⟨(hS.cel mp5 rfl),?_⟩
     refine drM_s hS ?_;intro w hS
     obtain ⟨⟨t45,t46,t47,t48⟩,ho45,h⟩:=bnd h
     refine wk_w12_product H hS (hG.mono tl9) ho45 ?_;clear hS ho45;rintro a102 m102 c102 w hS
     refine ⟨_,_,_,_,_,_,rfl,?_⟩
     refine drM_s hS ?_;intro w hS
     replace hS:=ro1 hS
     refine stc_s hS rfl rfl ?_;intro w hS
     refine stc_s hS rfl rfl ?_;intro w hS
     refine stc_s hS rfl rfl ?_;intro w hS
     refine drM_s hS ?_;intro w hS
     exact hJ86 _ _ ⟨_,_,_,_,_,_,_,_,some_inj h,rfl,hS⟩
    clear h86 hS
    rintro s w ⟨t38,r82,t39,t40,a83,m84,c85,t41,rfl,rfl,hS⟩
    have h:=c86
    clear c86
    try dsimp only
    refine optM_s ?_
    refine ⟨_,hS.cel mp0 rfl,_,_,_,hS.cel mp0 rfl,_,hS.cel mp0 rfl,?_⟩
    replace hS:=ro4 hS
    obtain ⟨⟨t49,t50,t51⟩,ho49,h⟩:=bnd h
    refine wk_p_w12_sums_adds H hS (e71.mono (incl_cons mp8 tl9)) (Ent.sl mp1) ho49 ?_;clear hS ho49;rintro a103 m103 c103 w hS
    refine ⟨rfl,?_⟩
    refine optM_s ?_
    refine ⟨_,hS.cel mp2 rfl,_,_,_,hS.cel mp2 rfl,_,hS.cel mp2 rfl,?_⟩
    replace hS:=ro5 hS
    obtain ⟨⟨t52,t53,t54⟩,ho52,h⟩:=bnd h
    refine wk_p_w12_sums_adds H hS (e66.mono (incl_cons mp8 tl10)) (Ent.sl mp3) ho52 ?_;clear hS ho52;rintro a104 m104 c104 w hS
    refine ⟨rfl,?_⟩
    obtain ⟨o108,h108,c108⟩:=bnd h
    refine cutM_i (fun s w=>∃ (t55:Bool) (t56:Int) (a105:OA) (m106:Nat) (c107:Nat) (t57:List Int),(t55,t56,t57)=o108∧s=(())∧Ho w0 w ((cl r4 [.bool t55,.slice a105 m106 c107,.int .i64 t56,.bool true] N.t_w12_sums)::(cl r5 [.bool t52,.slice a104 m104 c104,.int .i64 t54,.bool true] N.t_w12_sums)::(sl a104 m104 c104 (List.map (Value.int .u64) t53) N.t_uint64)::(cl r6 [.bool t49,.slice a103 m103 c103,.int .i64 t51,.bool true] N.t_w12_sums)::(sl a103 m103 c103 (List.map (Value.int .u64) t50) N.t_uint64)::(cl r3 [.bool t1,.slice a2 m2 c2,.int .i64 t3] N.t_Dyad)::(cl r1 [.int .i64 qa,.slice qb qc qd,.slice qe qf qg] N.t_Factor)::(sl a105 m106 c107 (List.map (Value.int .u64) t57) N.t_uint64)::L)) (fun J108 hJ108=>?_) ?_
    ·
     have h:=h108
     clear h108
     refine cond_s h ?_ ?_<;>intro hc h
     ·
      refine ⟨_,hS.cel mp8 rfl,_,_,_,hS.cel mp8 rfl,_,_,_,hS.cel mp8 rfl,?_⟩
      obtain ⟨t58,ht58,h⟩:=bnd h
      refine wk_w12_at H hS (qh.mono tl12) (qn.mono tl12) ht58 ?_;rintro z109 w rfl hS
      refine ⟨_,rfl,?_⟩
      obtain ⟨⟨t59,t60,t61,t62⟩,ho59,h⟩:=bnd h
      refine wk_dyad_Of H hS (hG.mono tl12) ho59 ?_;clear hS ho59;rintro a110 m110 c110 w hS
      refine ⟨_,_,_,_,_,_,rfl,?_⟩
      refine newM_s hS ?_;intro r111 w hS
      refine stc_s hS rfl rfl ?_;intro w hS
      refine stc_s hS rfl rfl ?_;intro w hS
      refine stc_s hS rfl rfl ?_;intro w hS
      refine ⟨_,hS.cel mp0 rfl,_,_,_,hS.cel mp0 rfl,_,hS.cel mp0 rfl,?_⟩
      replace hS:=ro8 hS
      obtain ⟨⟨t63,t64,t65⟩,ho63,h⟩:=bnd h
      refine wk_p_w12_sums_adds H hS (Ent.sl mp10) (Ent.sl mp1) ho63 ?_;clear hS ho63;rintro a112 m112 c112 w hS
      refine ⟨rfl,?_⟩
      obtain rfl:=some_inj h
      exact hJ108 _ _ ⟨_,_,_,_,_,_,rfl,rfl,(hS.pick (A:=[_,_,_,_,_,_,_,_,_,_,_,_,_,_,_]) [0,3,3,3,3,5,5,0] rfl)⟩
     obtain rfl:=some_inj h
     exact hJ108 _ _ ⟨_,_,_,_,_,_,rfl,rfl,(hS.pick (A:=[_,_,_,_,_,_,_,_,_,_,_,_]) [6,0,0,0,0,2,2,2] rfl)⟩
    clear h108 hS
    rintro s w ⟨t55,t56,a105,m106,c107,t57,rfl,rfl,hS⟩
    have h:=c108
    clear c108
    try dsimp only
    exact hJ81 _ _ ⟨_,_,_,_,_,_,_,_,_,_,_,_,_,_,_,_,_,_,some_inj h,rfl,hS⟩
   clear h81 hS
   rintro s w ⟨t29,t30,t31,t32,t33,t34,a72,m73,c74,t35,a75,m76,c77,t36,a78,m79,c80,t37,rfl,rfl,hS⟩
   have h:=c81
   clear c81
   try dsimp only
   obtain rfl:=some_inj h
   exact hX _ rfl _ _ ⟨_,_,_,_,_,_,_,_,_,_,_,_,_,_,_,_,_,_,_,_,_,rfl,rfl,(Ent.sl mp0),(Ent.sl mp0),(hS.pick (A:=[_,_,_,_,_,_,_,_]) [0,0,1,2,2,2,0,0] rfl)⟩
  obtain rfl:=some_inj h
  have h:=congrArg some (hO _ rfl)
  obtain rfl:=some_inj h
  exact hJ58 _ _ ⟨_,_,_,_,_,_,_,_,_,_,_,_,_,_,_,_,_,_,_,_,rfl,rfl,e66,e71,hS⟩
 clear h58 hS
 rintro s w ⟨t10,t11,t12,t13,t14,t15,a45,m46,c47,t16,a48,m49,c50,t17,it51,a53,m54,c55,t18,it56,rfl,rfl,e52,e57,hS⟩
 have h:=c58
 clear c58
 try dsimp only
 refine ⟨_,_,_,hS.cel mp4 rfl,?_⟩
 obtain ⟨t66,ht66,h⟩:=bnd h
 obtain ⟨z113,rfl,q114x,gh,q114r⟩:=atF ht66
 refine idx_s ((qn.mono tl8).now (fun _ h=>h) hS) q114x gh q114r ?_;intro b115 hb115
 refine ⟨_,rd_get ((qn.mono tl8).now (fun _ h=>h) hS) hb115 q114x,?_⟩
 obtain ⟨⟨t67,t68,t69,t70⟩,ho67,h⟩:=bnd h
 refine wk_dyad_Of H hS (hG.mono tl8) ho67 ?_;clear hS ho67;rintro a116 m116 c116 w hS
 refine ⟨_,_,_,_,_,_,rfl,?_⟩
 refine newM_s hS ?_;intro r117 w hS
 refine stc_s hS rfl rfl ?_;intro w hS
 refine stc_s hS rfl rfl ?_;intro w hS
 refine stc_s hS rfl rfl ?_;intro w hS
 refine ⟨_,hS.cel mp0 rfl,_,_,_,hS.cel mp0 rfl,_,hS.cel mp0 rfl,?_⟩
 replace hS:=ro2 hS
 obtain ⟨⟨t71,t72,t73⟩,ho71,h⟩:=bnd h
 refine wk_p_w12_sums_adds H hS (Ent.sl mp6) (Ent.sl mp1) ho71 ?_;clear hS ho71;rintro a118 m118 c118 w hS
 refine ⟨rfl,?_⟩
 obtain ⟨t74,ht74,h⟩:=bnd h
 obtain rfl:=fneg_s ht74
 obtain ⟨⟨t75,t76,t77,t78⟩,ho75,h⟩:=bnd h
 refine wk_dyad_Of H hS (hG.mono tl11) ho75 ?_;clear hS ho75;rintro a119 m119 c119 w hS
 refine ⟨_,_,_,_,_,_,rfl,?_⟩
 refine newM_s hS ?_;intro r120 w hS
 refine stc_s hS rfl rfl ?_;intro w hS
 refine stc_s hS rfl rfl ?_;intro w hS
 refine stc_s hS rfl rfl ?_;intro w hS
 refine ⟨_,hS.cel mp0 rfl,_,_,_,hS.cel mp0 rfl,_,hS.cel mp0 rfl,?_⟩
 replace hS:=ro7 hS
 obtain ⟨⟨t79,t80,t81⟩,ho79,h⟩:=bnd h
 refine wk_p_w12_sums_adds H hS (e57.mono (incl_cons mp11 tl12)) (Ent.sl mp1) ho79 ?_;clear hS ho79;rintro a121 m121 c121 w hS
 refine ⟨rfl,?_⟩
 refine ⟨_,hS.cel mp9 rfl,_,_,_,hS.cel mp9 rfl,_,hS.cel mp9 rfl,?_⟩
 refine newM_s hS ?_;intro r122 w hS
 refine optM_s ?_
 refine ⟨_,hS.cel mp1 rfl,_,_,_,hS.cel mp1 rfl,_,hS.cel mp1 rfl,?_⟩
 obtain ⟨⟨t82,t83,t84⟩,ho82,h⟩:=bnd h
 refine wk_p_w12_sums_adds H hS (hz.mono tl14) (Ent.sl mp1) ho82 ?_;clear hS ho82;rintro a123 m123 c123 w hS
 refine ⟨rfl,?_⟩
 refine optM_s ?_
 refine ⟨_,hS.cel mp10 rfl,_,_,_,hS.cel mp10 rfl,_,hS.cel mp10 rfl,?_⟩
 obtain ⟨⟨t85,t86,t87,t88⟩,ho85,h⟩:=bnd h
 refine wk_dyad_Scale H hS (e52.mono (incl_cons mp14 tl16)) ho85 ?_;clear hS ho85;rintro a124 m124 c124 w hS
 refine ⟨_,_,_,_,_,_,rfl,?_⟩
 refine newM_s hS ?_;intro r125 w hS
 refine stc_s hS rfl rfl ?_;intro w hS
 refine stc_s hS rfl rfl ?_;intro w hS
 refine stc_s hS rfl rfl ?_;intro w hS
 refine optM_s ?_
 refine ⟨_,hS.cel mp8 rfl,_,_,_,hS.cel mp8 rfl,_,hS.cel mp8 rfl,?_⟩
 obtain ⟨⟨t89,t90,t91,t92⟩,ho89,h⟩:=bnd h
 refine wk_dyad_Scale H hS (Ent.sl mp9) ho89 ?_;clear hS ho89;rintro a126 m126 c126 w hS
 refine ⟨_,_,_,_,_,_,rfl,?_⟩
 refine newM_s hS ?_;intro r127 w hS
 refine stc_s hS rfl rfl ?_;intro w hS
 refine stc_s hS rfl rfl ?_;intro w hS
 refine stc_s hS rfl rfl ?_;intro w hS
 obtain ⟨o128,h128,c128⟩:=bnd h
 refine cutM_i (fun s w=>∃ (t93:Bool),t93=o128∧s=(t93,())∧Ho w0 w ((cl r127 [.bool t89,.slice a126 m126 c126,.int .i64 t91] N.t_Dyad)::(sl a126 m126 c126 (List.map (Value.int .u64) t90) N.t_uint64)::(cl r125 [.bool t85,.slice a124 m124 c124,.int .i64 t87] N.t_Dyad)::(sl a124 m124 c124 (List.map (Value.int .u64) t86) N.t_uint64)::(cl r122 [.bool t82,.slice a123 m123 c123,.int .i64 t84,.bool true] N.t_w12_sums)::(sl a123 m123 c123 (List.map (Value.int .u64) t83) N.t_uint64)::L)) (fun J128 hJ128=>?_) ?_
 ·
  have h:=h128
  clear h128
  refine cond_s h ?_ ?_<;>intro hc h
  ·
   refine cond_s h ?_ ?_<;>intro hc h
   ·
    refine optM_s ?_
    refine ⟨_,hS.cel mp6 rfl,?_⟩
    refine optM_s ?_
    refine ⟨_,hS.cel mp14 rfl,?_⟩
    refine optM_s ?_
    refine ⟨_,hS.cel mp10 rfl,_,hS.cel mp4 rfl,?_⟩
    obtain rfl:=some_inj h
    exact hJ128 _ _ ⟨_,rfl,rfl,(hS.pick (A:=[_,_,_,_,_,_,_,_,_,_,_,_,_,_,_,_,_,_,_,_]) [0,0,0,0,0,0] rfl)⟩
   obtain rfl:=some_inj h
   exact hJ128 _ _ ⟨_,rfl,rfl,(hS.pick (A:=[_,_,_,_,_,_,_,_,_,_,_,_,_,_,_,_,_,_,_,_]) [0,0,0,0,0,0] rfl)⟩
  obtain rfl:=some_inj h
  exact hJ128 _ _ ⟨_,rfl,rfl,(hS.pick (A:=[_,_,_,_,_,_,_,_,_,_,_,_,_,_,_,_,_,_,_,_]) [0,0,0,0,0,0] rfl)⟩
 clear h128 hS
 rintro s w ⟨t93,rfl,rfl,hS⟩
 have h:=c128
 clear c128
 try dsimp only
 refine cond_s h ?_ ?_<;>intro hc h
 ·
  cases some_inj h
  exact hK _ (hS.pick (A:=[_,_,_,_,_,_]) [] rfl)
 refine ⟨_,hS.cel mp2 rfl,_,_,_,hS.cel mp2 rfl,_,hS.cel mp2 rfl,_,hS.cel mp0 rfl,_,_,_,hS.cel mp0 rfl,_,hS.cel mp0 rfl,?_⟩
 obtain ⟨⟨t94,t95,t96,t97⟩,ho94,h⟩:=bnd h
 refine wk_dyad_Add H hS (Ent.sl mp3) (Ent.sl mp1) ho94 ?_;clear hS ho94;rintro a129 m129 c129 w hS
 refine ⟨_,_,_,_,_,_,rfl,?_⟩
 replace hS:=ro3 hS
 refine stc_s hS rfl rfl ?_;intro w hS
 refine stc_s hS rfl rfl ?_;intro w hS
 refine stc_s hS rfl rfl ?_;intro w hS
 refine cond_s h ?_ ?_<;>intro hc h
 ·
  cases some_inj h
  exact hK _ (hS.pick (A:=[_,_,_,_,_,_,_]) [] rfl)
 refine ⟨_,hS.cel mp0 rfl,_,_,_,hS.cel mp0 rfl,_,hS.cel mp0 rfl,?_⟩
 refine drM_s hS ?_;intro w hS
 obtain ⟨⟨t98,t99,t100⟩,ho98,h⟩:=bnd h
 refine wk_dyad_Int H hS  ho98 ?_;clear hS ho98;rintro a130 m130 c130 w hS
 refine ⟨_,_,_,_,_,rfl,?_⟩
 refine ⟨(hS.cel mp1 rfl),?_⟩
 refine ⟨(hS.cel mp1 rfl),?_⟩
 refine ⟨(hS.cel mp1 rfl),?_⟩
 refine drM_s hS ?_;intro w hS
 obtain ⟨⟨t101,t102,t103,t104⟩,ho101,h⟩:=bnd h
 refine wk_dyad_Mul H hS (Ent.sl mp2) (Ent.sl mp0) ho101 ?_;clear hS ho101;rintro a131 m131 c131 w hS
 refine ⟨_,_,_,_,_,_,rfl,?_⟩
 refine drM_s hS ?_;intro w hS
 replace hS:=ro2 hS
 refine stc_s hS rfl rfl ?_;intro w hS
 refine stc_s hS rfl rfl ?_;intro w hS
 refine stc_s hS rfl rfl ?_;intro w hS
 refine drM_s hS ?_;intro w hS
 refine ⟨_,hS.cel mp7 rfl,_,_,_,hS.cel mp7 rfl,_,hS.cel mp7 rfl,_,hS.cel mp0 rfl,_,_,_,hS.cel mp0 rfl,_,hS.cel mp0 rfl,?_⟩
 refine drM_s hS ?_;intro w hS
 obtain ⟨⟨t105,t106⟩,ho105,h⟩:=bnd h
 refine wk_dyad_Cmp H hS (Ent.sl mp8) (Ent.sl mp1) ho105 ?_;clear hS ho105;rintro w hS
 refine ⟨_,_,rfl,?_⟩
 refine drM_s hS ?_;intro w hS
 refine cond_s h ?_ ?_<;>intro hc h
 ·
  refine cond_s h ?_ ?_<;>intro hc h
  ·
   cases some_inj h
   exact hK _ (hS.pick (A:=[_,_,_,_,_,_,_,_,_]) [] rfl)
  cases some_inj h
  exact hK _ (hS.pick (A:=[_,_,_,_,_,_,_,_,_]) [] rfl)
 cases some_inj h
 exact hK _ (hS.pick (A:=[_,_,_,_,_,_,_,_,_]) [] rfl)
theorem wk_w12_LowerNear {qa qb qe qf qg qp u0} (hS:Ho w0 w L) (qn:EF L qp qe qf qg) (hG:Ent L (tab64 N.g_1)) (h:T_w12_LowerNear qa qb (List.map nf qp)=some u0) (hK:∀ w1,Ho w0 w1 L→K (.bool u0) w1):CallsX P N.f_w12_LowerNear #[.agg #[.int .i64 qa,.int .i64 qb,.slice qe qf qg]] w K:=by
 refine H.w12_LowerNear qa qb qe qf qg w _ ?_
 unfold S_w12_LowerNear
 unfold T_w12_LowerNear at h
 try dsimp only
 refine newM_s hS ?_;intro r1 w hS
 obtain ⟨t1,ht1,h⟩:=bnd h
 refine wk_w12_awake H hS  ht1 ?_;rintro w hS
 refine ⟨_,rfl,?_⟩
 refine cond_s h ?_ ?_<;>intro hc h
 ·
  cases some_inj h
  exact hK _ (hS.pick (A:=[_]) [] rfl)
 refine ⟨_,hS.cel mp0 rfl,_,hS.cel mp0 rfl,_,_,_,hS.cel mp0 rfl,?_⟩
 obtain ⟨⟨t2,t3,t4⟩,ho2,h⟩:=bnd h
 refine wk_w12_small H hS (qn.mono tl1) ho2 ?_;clear hS ho2;rintro a2 m2 c2 ju w rfl hS
 refine ⟨_,_,_,_,_,rfl,?_⟩
 replace hS:=ro1 hS
 refine stc_s hS rfl rfl ?_;intro w hS
 refine stc_s hS rfl rfl ?_;intro w hS
 refine stc_s hS rfl rfl ?_;intro w hS
 refine ⟨_,hS.cel mp0 rfl,_,hS.cel mp0 rfl,_,hS.cel mp0 rfl,_,_,_,hS.cel mp0 rfl,?_⟩
 obtain ⟨⟨t5,t6,t7,t8,t9⟩,ho5,h⟩:=bnd h
 refine wk_lower_Factor H hS (Ent.sl mp1) ho5 ?_;clear hS ho5;rintro a3 m3 c3 yu a4 m4 c4 yt w rfl rfl hS
 refine ⟨_,_,_,_,_,_,_,_,_,rfl,?_⟩
 refine newM_s hS ?_;intro r5 w hS
 refine stc_s hS rfl rfl ?_;intro w hS
 refine stc_s hS rfl rfl ?_;intro w hS
 refine stc_s hS rfl rfl ?_;intro w hS
 refine cond_s h ?_ ?_<;>intro hc h
 ·
  refine cond_s h ?_ ?_<;>intro hc h
  ·
   refine cond_s h ?_ ?_<;>intro hc h
   ·
    cases some_inj h
    exact hK _ (hS.pick (A:=[_,_,_,_,_]) [] rfl)
   cases some_inj h
   exact hK _ (hS.pick (A:=[_,_,_,_,_]) [] rfl)
  cases some_inj h
  exact hK _ (hS.pick (A:=[_,_,_,_,_]) [] rfl)
 obtain ⟨o6,h6,c6⟩:=bnd h
 refine cutM_i (fun s w=>∃ (t10:Bool),t10=o6∧s=(t10,())∧Ho w0 w ((cl r5 [.int .i64 t5,.slice a3 m3 c3,.slice a4 m4 c4] N.t_Factor)::(sl a3 m3 c3 (List.map (Value.float .f64) yu) N.t_float64)::(sl a4 m4 c4 (List.map (Value.float .f64) yt) N.t_float64)::(cl r1 [.int .i64 t2,.int .i64 t3,.slice a2 m2 c2] N.t_Matrix)::(sl a2 m2 c2 (List.map (Value.float .f64) ju) N.t_float64)::L)) (fun J6 hJ6=>?_) ?_
 ·
  have h:=h6
  clear h6
  refine ⟨_,hS.cel mp0 rfl,?_⟩
  refine cond_s h ?_ ?_<;>intro hc h
  ·
   refine ⟨_,hS.cel mp0 rfl,_,_,_,hS.cel mp0 rfl,_,_,_,hS.cel mp0 rfl,?_⟩
   obtain ⟨t11,ht11,h⟩:=bnd h
   refine wk_lower_Right H hS (Ent.sl mp1) (Ent.sl mp2) ht11 ?_;rintro w hS
   refine ⟨_,rfl,?_⟩
   exact hJ6 _ _ ⟨_,some_inj h,rfl,hS⟩
  exact hJ6 _ _ ⟨_,some_inj h,rfl,hS⟩
 clear h6 hS
 rintro s w ⟨t10,rfl,rfl,hS⟩
 have h:=c6
 clear c6
 try dsimp only
 refine cond_s h ?_ ?_<;>intro hc h
 ·
  cases some_inj h
  exact hK _ (hS.pick (A:=[_,_,_,_,_]) [] rfl)
 obtain ⟨o7,h7,c7⟩:=bnd h
 refine cutM_i (fun s w =>  .inl ()=o7∧s=(())∧Ho w0 w L) (fun J7 hJ7=>?_) ?_
 ·
  have h:=h7
  clear h7
  refine iter_sim (fun s w t=>∃ (t12:Int),t12=t∧s=(t12,())∧Ho w0 w ((cl r5 [.int .i64 t5,.slice a3 m3 c3,.slice a4 m4 c4] N.t_Factor)::(sl a3 m3 c3 (List.map (Value.float .f64) yu) N.t_float64)::(sl a4 m4 c4 (List.map (Value.float .f64) yt) N.t_float64)::(cl r1 [.int .i64 t2,.int .i64 t3,.slice a2 m2 c2] N.t_Matrix)::(sl a2 m2 c2 (List.map (Value.float .f64) ju) N.t_float64)::L)) ?_ h ⟨_,rfl,rfl,hS⟩
  clear h hS
  rintro s w t X q ⟨t12,rfl,rfl,hS⟩ h hX hO
  unfold T_w12_LowerNear_b5 at h
  try dsimp only
  refine cond_s h ?_ ?_<;>intro hc h
  ·
   refine ⟨_,_,_,hS.cel mp0 rfl,?_⟩
   obtain ⟨t13,ht13,h⟩:=bnd h
   obtain ⟨z8,rfl,q9x,jx,q9r⟩:=atF ht13
   refine idx_s ((Ent.sl mp2).now (fun _ h=>h) hS) q9x jx q9r ?_;intro b10 hb10
   refine ⟨_,rd_get ((Ent.sl mp2).now (fun _ h=>h) hS) hb10 q9x,?_⟩
   obtain ⟨t14,ht14,h⟩:=bnd h
   obtain rfl:=fgt_s ht14
   refine cond_s h ?_ ?_<;>intro hc h
   ·
    refine ⟨_,_,_,hS.cel mp0 rfl,?_⟩
    obtain ⟨t15,ht15,h⟩:=bnd h
    obtain ⟨z11,rfl,q12x,yd,q12r⟩:=atF ht15
    refine idx_s ((Ent.sl mp2).now (fun _ h=>h) hS) q12x yd q12r ?_;intro b13 hb13
    refine ⟨_,rd_get ((Ent.sl mp2).now (fun _ h=>h) hS) hb13 q12x,?_⟩
    obtain ⟨t16,ht16,h⟩:=bnd h
    refine wk_math_IsInf H hS  ht16 ?_;rintro w hS
    refine ⟨_,rfl,?_⟩
    refine cond_s h ?_ ?_<;>intro hc h
    ·
     obtain rfl:=some_inj h
     have h:=congrArg some (hO _ rfl)
     obtain rfl:=some_inj h
     have h:=c7
     cases some_inj h
     exact hK _ (hS.pick (A:=[_,_,_,_,_]) [] rfl)
    obtain ⟨o14,h14,c14⟩:=bnd h
    refine cutM_i (fun s w =>  .inl ()=o14∧s=(())∧Ho w0 w ((cl r5 [.int .i64 t5,.slice a3 m3 c3,.slice a4 m4 c4] N.t_Factor)::(sl a3 m3 c3 (List.map (Value.float .f64) yu) N.t_float64)::(sl a4 m4 c4 (List.map (Value.float .f64) yt) N.t_float64)::(cl r1 [.int .i64 t2,.int .i64 t3,.slice a2 m2 c2] N.t_Matrix)::(sl a2 m2 c2 (List.map (Value.float .f64) ju) N.t_float64)::L)) (fun J14 hJ14=>?_) ?_
    ·
     have h:=h14
     clear h14
     refine iter_sim (fun s w t=>∃ (t17:Int),t17=t∧s=(t17,())∧Ho w0 w ((cl r5 [.int .i64 t5,.slice a3 m3 c3,.slice a4 m4 c4] N.t_Factor)::(sl a3 m3 c3 (List.map (Value.float .f64) yu) N.t_float64)::(sl a4 m4 c4 (List.map (Value.float .f64) yt) N.t_float64)::(cl r1 [.int .i64 t2,.int .i64 t3,.slice a2 m2 c2] N.t_Matrix)::(sl a2 m2 c2 (List.map (Value.float .f64) ju) N.t_float64)::L)) ?_ h ⟨_,rfl,rfl,hS⟩
     clear h hS
     rintro s w t X q ⟨t17,rfl,rfl,hS⟩ h hX hO
     unfold T_w12_LowerNear_b7 at h
     try dsimp only
     refine cond_s h ?_ ?_<;>intro hc h
     ·
      refine ⟨_,hS.cel mp0 rfl,_,_,_,hS.cel mp0 rfl,_,_,_,hS.cel mp0 rfl,_,_,_,hS.cel mp3 rfl,?_⟩
      obtain ⟨t18,ht18,h⟩:=bnd h
      obtain ⟨z15,rfl,q16x,jt,q16r⟩:=atF ht18
      refine idx_s ((Ent.sl mp4).now (fun _ h=>h) hS) q16x jt q16r ?_;intro b17 hb17
      refine ⟨_,rd_get ((Ent.sl mp4).now (fun _ h=>h) hS) hb17 q16x,?_⟩
      refine drM_s hS ?_;intro w hS
      obtain ⟨t19,ht19,h⟩:=bnd h
      refine wk_w12_near H hS (Ent.sl mp1) (Ent.sl mp2) (hG.mono tl5) ht19 ?_;rintro w hS
      refine ⟨_,rfl,?_⟩
      refine drM_s hS ?_;intro w hS
      refine cond_s h ?_ ?_<;>intro hc h
      ·
       obtain rfl:=some_inj h
       have h:=congrArg some (hO _ rfl)
       obtain rfl:=some_inj h
       have h:=c14
       obtain rfl:=some_inj h
       have h:=congrArg some (hO _ rfl)
       obtain rfl:=some_inj h
       have h:=c7
       cases some_inj h
       exact hK _ (hS.pick (A:=[_,_,_,_,_]) [] rfl)
      obtain rfl:=some_inj h
      exact hX _ rfl _ _ ⟨_,rfl,rfl,hS⟩
     obtain rfl:=some_inj h
     have h:=congrArg some (hO _ rfl)
     exact hJ14 _ _ ⟨some_inj h,rfl,hS⟩
    clear h14 hS
    rintro s w ⟨rfl,rfl,hS⟩
    have h:=c14
    clear c14
    try dsimp only
    obtain rfl:=some_inj h
    exact hX _ rfl _ _ ⟨_,rfl,rfl,hS⟩
   obtain rfl:=some_inj h
   have h:=congrArg some (hO _ rfl)
   obtain rfl:=some_inj h
   have h:=c7
   cases some_inj h
   exact hK _ (hS.pick (A:=[_,_,_,_,_]) [] rfl)
  obtain rfl:=some_inj h
  have h:=congrArg some (hO _ rfl)
  obtain rfl:=some_inj h
  exact hJ7 _ _ ⟨rfl,rfl,(hS.pick (A:=[_,_,_,_,_]) [] rfl)⟩
 clear h7 hS
 rintro s w ⟨rfl,rfl,hS⟩
 have h:=c7
 clear c7
 try dsimp only
 cases some_inj h
 exact hK _ hS
end Go.Eng
