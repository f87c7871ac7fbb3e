/-
 Each function comes to what its function of plain Lean says, printed by a program of the session; with contracts written by hand at the head. No condition.
-/
import Derived.Test.YtgbilchfljlbeaaGreatDoorTp
import Derived.Test.YtgbilchfljlbeaaGreatDoorSh
import Derived.Test.YtgbilchfljlbeaaGreatDoorTw4
import Derived.Test.YtgbilchfljlbeaaGreatDoorBgW
import Derived.Test.YtgbilchfljlbeaaGreatDoorBitC
set_option linter.all false
set_option maxRecDepth 100000
set_option maxHeartbeats 4000000
namespace Go.Eng
open Go
open Go.IntKind (i64 u64 u32 u8)
section
variable {N:Nums} {P:Program} (H:AllOk N P)
include H
theorem bits_c (x:Nat) (w:World):CallsX P N.f_math_Float64bits #[.float .f64 x] w fun v w'=>v = .int .u64 x∧St w w' []:=
 H.math_Float64bits x w _ ⟨rfl,St.refl _⟩
theorem abs_c (x:Nat) (w:World):CallsX P N.f_math_Abs #[.float .f64 x] w fun v w'=>v = .float .f64 (magF x)∧St w w' []:=by
 refine H.math_Abs x w _ ?_
 unfold S_math_Abs
 refine (bits_c H x w).mono ?_
 rintro _ w1 ⟨rfl,h1⟩
 refine ⟨_,rfl,?_⟩
 refine H.math_Float64frombits _ w1 _ ?_
 rw [abs_bits]
 exact ⟨_,rfl,rfl,h1⟩
theorem signbit_c (x:Nat) (w:World):CallsX P N.f_math_Signbit #[.float .f64 x] w fun v w'=>v = .bool (negF x)∧St w w' []:=by
 refine H.math_Signbit x w _ ?_
 unfold S_math_Signbit
 refine (bits_c H x w).mono ?_
 rintro _ w1 ⟨rfl,h1⟩
 exact ⟨_,rfl,by rw [sign_bits],h1⟩
theorem copysign_c (x y:Nat) (w:World):CallsX P N.f_math_Copysign #[.float .f64 x,.float .f64 y] w fun v w'=>v = .float .f64 ((if negF y then 9223372036854775808 else 0)+magF x)∧St w w' []:=by
 refine H.math_Copysign x y w _ ?_
 unfold S_math_Copysign
 refine (bits_c H x w).mono ?_
 rintro _ w1 ⟨rfl,h1⟩
 refine ⟨_,rfl,?_⟩
 refine (bits_c H y w1).mono ?_
 rintro _ w2 ⟨rfl,h2⟩
 refine ⟨_,rfl,?_⟩
 refine H.math_Float64frombits _ w2 _ ?_
 rw [copy_bits]
 exact ⟨_,rfl,rfl,h1.next h2⟩
theorem sameFloat_c (x y:Nat) (w:World):CallsX P N.f_k_SameFloat #[.float .f64 x,.float .f64 y] w fun v w'=>v = .bool (nf x==nf y)∧St w w' []:=by
 refine H.k_SameFloat x y w _ ?_
 unfold S_k_SameFloat
 refine (bits_c H x w).mono ?_
 rintro _ w1 ⟨rfl,h1⟩
 refine ⟨_,rfl,?_⟩
 refine (bits_c H y w1).mono ?_
 rintro _ w2 ⟨rfl,h2⟩
 refine ⟨_,rfl,?_⟩
 have hS:=h1.next h2
 have hxy:((x:Int)==(y:Int))=(x==y):=by rw [Bool.eq_iff_iff];simp;omega
 rw [same_bits,hxy,feq_self,feq_self]
 cases x==y<;>cases isNaN x<;>exact ⟨by simp,hS⟩
end
variable {N:Nums} {P:Program} (H:AllOk N P) {w0 w:World} {L:List It} {K:KV}
include H
theorem wk_w14_two  {u0 u1 u2 u3 u4 u5} (hS:Ho w0 w L)  (h:T_w14_two  = some (u0,u1,u2,u3,u4,u5)) (hK:∀ (a2:OA) (n2 c2:Nat) (rws2:List Nat) (a4:OA) (n4 c4:Nat) (rws4:List Nat) (a5:OA) (n5 c5:Nat) (rws5:List Nat) (w1:World),List.map nf rws2=u2→List.map nf rws4=u4→List.map nf rws5=u5→Ho w0 w1 ((sl a2 n2 c2 (List.map (Value.float .f64) rws2) N.t_float64)::(sl a4 n4 c4 (List.map (Value.float .f64) rws4) N.t_float64)::(sl a5 n5 c5 (List.map (Value.float .f64) rws5) N.t_float64)::L)→K (.tuple #[.agg #[.int .i64 u0,.int .i64 u1,.slice a2 n2 c2],.agg #[.int .i64 u3,.slice a4 n4 c4,.slice a5 n5 c5]]) w1):CallsX P N.f_w14_two #[] w K:=by
 refine H.w14_two  w _ ?_
 unfold S_w14_two
 unfold T_w14_two at h
 try dsimp only
 refine newM_s hS ?_;intro r1 w hS
 refine newM_s hS ?_;intro r2 w hS
 obtain ⟨t1,ht1,h⟩:=bnd h
 obtain rfl:(List.map nf ([4616189618054758400,4607182418800017408,4607182418800017408,4613937818241073152]:List Nat))=t1:=some_inj ht1
 refine lit_s (ks:=[4616189618054758400,4607182418800017408,4607182418800017408,4613937818241073152]) (enc:=(Value.float .f64)) (m:=4) hS rfl rfl ?_;intro r3 w hS
 obtain ⟨t2,ht2,h⟩:=bnd h
 obtain rfl:(List.map nf ([4598175219545276416]:List Nat))=t2:=some_inj ht2
 refine lit_s (ks:=[4598175219545276416]) (enc:=(Value.float .f64)) (m:=1) hS rfl rfl ?_;intro r4 w hS
 obtain ⟨t3,ht3,h⟩:=bnd h
 obtain rfl:(List.map nf ([4616189618054758400,4613374868287651840]:List Nat))=t3:=some_inj ht3
 refine lit_s (ks:=[4616189618054758400,4613374868287651840]) (enc:=(Value.float .f64)) (m:=2) hS rfl rfl ?_;intro r5 w hS
 replace hS:=ro4 hS
 refine stc_s hS rfl rfl ?_;intro w hS
 refine stc_s hS rfl rfl ?_;intro w hS
 refine stc_s hS rfl rfl ?_;intro w hS
 replace hS:=ro4 hS
 refine stc_s hS rfl rfl ?_;intro w hS
 refine stc_s hS rfl rfl ?_;intro w hS
 refine stc_s hS rfl rfl ?_;intro w hS
 refine ⟨_,hS.cel mp1 rfl,_,hS.cel mp1 rfl,_,_,_,hS.cel mp1 rfl,_,hS.cel mp0 rfl,_,_,_,hS.cel mp0 rfl,_,_,_,hS.cel mp0 rfl,?_⟩
 cases some_inj h
 exact hK _ _ _ _ _ _ _ _ _ _ _ _ _ rfl rfl rfl (hS.pick (A:=[_,_,_,_,_]) [4,3,2] rfl)
theorem wk_matrix_fits {q0 u0} (hS:Ho w0 w L)  (h:T_matrix_fits q0=some u0) (hK:∀ w1,Ho w0 w1 L→K (.bool u0) w1):CallsX P N.f_matrix_fits #[.int .i64 q0] w K:=by
 refine H.matrix_fits q0 w _ ?_
 unfold S_matrix_fits
 unfold T_matrix_fits at h
 try dsimp only
 refine cond_s h ?_ ?_<;>intro hc h
 ·
  cases some_inj h
  exact hK _ hS
 cases some_inj h
 exact hK _ hS
theorem wk_matrix_Right {qa qb qc qd qe qs u0} (hS:Ho w0 w L) (qq:EF L qs qc qd qe) (h:T_matrix_Right qa qb (List.map nf qs)=some u0) (hK:∀ w1,Ho w0 w1 L→K (.bool u0) w1):CallsX P N.f_matrix_Right #[.agg #[.int .i64 qa,.int .i64 qb,.slice qc qd qe]] w K:=by
 refine H.matrix_Right qa qb qc qd qe w _ ?_
 unfold S_matrix_Right
 unfold T_matrix_Right at h
 try dsimp only
 refine newM_s hS ?_;intro r1 w hS
 refine ⟨_,hS.cel mp0 rfl,?_⟩
 obtain ⟨t1,ht1,h⟩:=bnd h
 refine wk_matrix_fits H hS  ht1 ?_;rintro w hS
 refine ⟨_,rfl,?_⟩
 refine cond_s h ?_ ?_<;>intro hc h
 ·
  refine ⟨_,hS.cel mp0 rfl,?_⟩
  obtain ⟨t2,ht2,h⟩:=bnd h
  refine wk_matrix_fits H hS  ht2 ?_;rintro w hS
  refine ⟨_,rfl,?_⟩
  refine cond_s h ?_ ?_<;>intro hc h
  ·
   refine ⟨_,_,_,hS.cel mp0 rfl,?_⟩
   obtain ⟨t3,ht3,h⟩:=bnd h
   obtain rfl:=lenF ht3 ((qq.mono tl1).now (fun _ h=>h) hS)
   refine ⟨_,hS.cel mp0 rfl,_,hS.cel mp0 rfl,?_⟩
   cases some_inj h
   exact hK _ (hS.pick (A:=[_]) [] rfl)
  cases some_inj h
  exact hK _ (hS.pick (A:=[_]) [] rfl)
 cases some_inj h
 exact hK _ (hS.pick (A:=[_]) [] rfl)
theorem wk_refine_fit {qa qb qc qd qe qs q1 qk qp vr q2 qx vo yh u0} (hS:Ho w0 w L) (qq:EF L qs qc qd qe) (qy:EF L vr q1 qk qp) (yl:EF L yh q2 qx vo) (h:T_refine_fit qa qb (List.map nf qs) (List.map nf vr) (List.map nf yh)=some u0) (hK:∀ w1,Ho w0 w1 L→K (.bool u0) w1):CallsX P N.f_refine_fit #[.agg #[.int .i64 qa,.int .i64 qb,.slice qc qd qe],.slice q1 qk qp,.slice q2 qx vo] w K:=by
 refine H.refine_fit qa qb qc qd qe q1 qk qp q2 qx vo w _ ?_
 unfold S_refine_fit
 unfold T_refine_fit at h
 try dsimp only
 refine newM_s hS ?_;intro r1 w hS
 refine ⟨_,hS.cel mp0 rfl,_,hS.cel mp0 rfl,_,_,_,hS.cel mp0 rfl,?_⟩
 obtain ⟨t1,ht1,h⟩:=bnd h
 refine wk_matrix_Right H hS (qq.mono tl1) ht1 ?_;rintro w hS
 refine ⟨_,rfl,?_⟩
 refine cond_s h ?_ ?_<;>intro hc h
 ·
  obtain ⟨t2,ht2,h⟩:=bnd h
  obtain rfl:=lenF ht2 ((qy.mono tl1).now (fun _ h=>h) hS)
  refine ⟨_,hS.cel mp0 rfl,?_⟩
  refine cond_s h ?_ ?_<;>intro hc h
  ·
   obtain ⟨t3,ht3,h⟩:=bnd h
   obtain rfl:=lenF ht3 ((yl.mono tl1).now (fun _ h=>h) hS)
   refine ⟨_,hS.cel mp0 rfl,?_⟩
   cases some_inj h
   exact hK _ (hS.pick (A:=[_]) [] rfl)
  cases some_inj h
  exact hK _ (hS.pick (A:=[_]) [] rfl)
 cases some_inj h
 exact hK _ (hS.pick (A:=[_]) [] rfl)
theorem wk_refine_finite {q0 qh qn} {H0:List Hd} {X0:List (List Nat)} {u0} (hS:Ho w0 w L) (qu:Ent L (rdA (List.map hdV H0) q0 qh qn)) (gq0:Alls L (Value.float .f64) X0 H0) (h:T_refine_finite (List.map (List.map nf) X0)=some u0) (hK:∀ w1,Ho w0 w1 L→K (.bool u0) w1):CallsX P N.f_refine_finite #[.slice q0 qh qn] w K:=by
 refine H.refine_finite q0 qh qn w _ ?_
 unfold S_refine_finite
 unfold T_refine_finite at h
 try dsimp only
 obtain ⟨t1,ht1,h⟩:=bnd h
 obtain rfl:=lenLF (enc:=(Value.float .f64)) ht1 gq0 (qu.now (fun _ h=>h) hS)
 obtain ⟨o1,h1,c1⟩:=bnd h
 refine cutM_i (fun s w =>  .inl ()=o1∧s=(())∧Ho w0 w L) (fun J1 hJ1=>?_) ?_
 ·
  have h:=h1
  clear h1
  refine iter_sim (fun s w t=>∃ (t2:Int),t2=t∧s=(t2,())∧Ho w0 w L) ?_ h ⟨_,rfl,rfl,hS⟩
  clear h hS
  rintro s w t X q ⟨t2,rfl,rfl,hS⟩ h hX hO
  unfold T_refine_finite_b5 at h
  try dsimp only
  refine cond_s h ?_ ?_<;>intro hc h
  ·
   obtain ⟨t3,ht3,h⟩:=bnd h
   obtain ⟨lq2,gq2,rfl,q2x,qx,q2r,q2e⟩:=Alls.atF (L:=L) (enc:=(Value.float .f64)) (X:=X0) (H:=H0) gq0 ht3
   refine idx_s (qu.now (fun _ h=>h) hS) q2x qx q2r ?_;intro b3 hb3
   refine ⟨_,_,_,rdL_get (qu.now (fun _ h=>h) hS) hb3 q2x,?_⟩
   obtain ⟨t4,ht4,h⟩:=bnd h
   obtain rfl:=lenF ht4 ((q2e.mono incl_refl).now (fun _ h=>h) hS)
   obtain ⟨o4,h4,c4⟩:=bnd h
   refine cutM_i (fun s w =>  .inl ()=o4∧s=(())∧Ho w0 w L) (fun J4 hJ4=>?_) ?_
   ·
    have h:=h4
    clear h4
    refine iter_sim (fun s w t=>∃ (t5:Int),t5=t∧s=(t5,())∧Ho w0 w L) ?_ h ⟨_,rfl,rfl,hS⟩
    clear h hS
    rintro s w t X q ⟨t5,rfl,rfl,hS⟩ h hX hO
    unfold T_refine_finite_b7 at h
    try dsimp only
    refine cond_s h ?_ ?_<;>intro hc h
    ·
     obtain ⟨t6,ht6,h⟩:=bnd h
     obtain ⟨z5,rfl,q6x,ym,q6r⟩:=atF ht6
     refine idx_s ((q2e.mono incl_refl).now (fun _ h=>h) hS) q6x ym q6r ?_;intro b7 hb7
     refine ⟨_,rd_get ((q2e.mono incl_refl).now (fun _ h=>h) hS) hb7 q6x,?_⟩
     obtain ⟨t7,ht7,h⟩:=bnd h
     refine fsub_s ht7 hS ?_;rintro z8 w rfl hS
     obtain ⟨t8,ht8,h⟩:=bnd h
     obtain rfl:=fne_s ht8
     refine cond_s h ?_ ?_<;>intro hc h
     ·
      obtain rfl:=some_inj h
      have h:=congrArg some (hO _ rfl)
      obtain rfl:=some_inj h
      have h:=c4
      obtain rfl:=some_inj h
      have h:=congrArg some (hO _ rfl)
      obtain rfl:=some_inj h
      have h:=c1
      cases some_inj h
      exact hK _ hS
     obtain rfl:=some_inj h
     exact hX _ rfl _ _ ⟨_,rfl,rfl,hS⟩
    obtain rfl:=some_inj h
    have h:=congrArg some (hO _ rfl)
    exact hJ4 _ _ ⟨some_inj h,rfl,hS⟩
   clear h4 hS
   rintro s w ⟨rfl,rfl,hS⟩
   have h:=c4
   clear c4
   try dsimp only
   obtain rfl:=some_inj h
   exact hX _ rfl _ _ ⟨_,rfl,rfl,hS⟩
  obtain rfl:=some_inj h
  have h:=congrArg some (hO _ rfl)
  exact hJ1 _ _ ⟨some_inj h,rfl,hS⟩
 clear h1 hS
 rintro s w ⟨rfl,rfl,hS⟩
 have h:=c1
 clear c1
 try dsimp only
 cases some_inj h
 exact hK _ hS
theorem wk_math_IsNaN {q0 u0} (hS:Ho w0 w L)  (h:T_math_IsNaN (nf q0)=some u0) (hK:∀ w1,Ho w0 w1 L→K (.bool u0) w1):CallsX P N.f_math_IsNaN #[.float .f64 q0] w K:=by
 refine H.math_IsNaN q0 w _ ?_
 unfold S_math_IsNaN
 unfold T_math_IsNaN at h
 try dsimp only
 obtain ⟨t1,ht1,h⟩:=bnd h
 obtain rfl:=fne_s ht1
 cases some_inj h
 exact hK _ hS
theorem wk_math_Float64bits {q0 u0} (hS:Ho w0 w L)  (hx:T_math_Float64bits (nf q0)=some u0) (hK:∀ w1,Ho w0 w1 L→K (.int .u64 u0) w1):CallsX P N.f_math_Float64bits #[.float .f64 q0] w K:=by
 unfold T_math_Float64bits at hx
 have hn:isNaN q0=false:=by
  cases e:isNaN q0 with
  | false=>rfl
  | true=>rw [isNaN_nf,e] at hx;cases hx
 rw [isNaN_nf,hn,nf_of_not hn] at hx
 have hx:=some_inj hx
 subst hx
 exact H.math_Float64bits q0 w _ (hK _ hS)
theorem wk_math_Float64frombits {q0 u0} (hS:Ho w0 w L)  (hx:T_math_Float64frombits q0=some u0) (hK:∀ (z0:Nat) (w1:World),nf z0=u0→Ho w0 w1 L→K (.float .f64 z0) w1):CallsX P N.f_math_Float64frombits #[.int .u64 q0] w K:=by
 unfold T_math_Float64frombits at hx
 have hx:=some_inj hx
 exact H.math_Float64frombits q0 w _ (hK _ _ hx hS)
theorem wk_math_Abs {q0 u0} (hS:Ho w0 w L)  (hx:T_math_Abs (nf q0)=some u0) (hK:∀ (z0:Nat) (w1:World),nf z0=u0→Ho w0 w1 L→K (.float .f64 z0) w1):CallsX P N.f_math_Abs #[.float .f64 q0] w K:=by
 unfold T_math_Abs at hx
 have hx:=some_inj hx
 refine (abs_c H q0 w).mono ?_
 rintro _ w1 ⟨rfl,h1⟩
 exact hK _ _ ((nf_magF q0).symm.trans hx) (hS.next h1)
theorem wk_math_IsInf {q0 q1 u0} (hS:Ho w0 w L)  (h:T_math_IsInf (nf q0) q1=some u0) (hK:∀ w1,Ho w0 w1 L→K (.bool u0) w1):CallsX P N.f_math_IsInf #[.float .f64 q0,.int .i64 q1] w K:=by
 refine H.math_IsInf q0 q1 w _ ?_
 unfold S_math_IsInf
 unfold T_math_IsInf at h
 try dsimp only
 obtain ⟨o2,h2,c2⟩:=bnd h
 refine cutM_i (fun s w=>∃ (z1:Nat),(nf z1)=o2∧s=(z1,())∧Ho w0 w L) (fun J2 hJ2=>?_) ?_
 ·
  have h:=h2
  clear h2
  refine cond_s h ?_ ?_<;>intro hc h
  ·
   obtain ⟨t2,ht2,h⟩:=bnd h
   refine wk_math_Abs H hS  ht2 ?_;rintro z3 w rfl hS
   refine ⟨_,rfl,?_⟩
   exact hJ2 _ _ ⟨_,some_inj h,rfl,hS⟩
  obtain ⟨o5,h5,c5⟩:=bnd h
  refine cutM_i (fun s w=>∃ (z4:Nat),(nf z4)=o5∧s=(z4,())∧Ho w0 w L) (fun J5 hJ5=>?_) ?_
  ·
   have h:=h5
   clear h5
   refine cond_s h ?_ ?_<;>intro hc h
   ·
    obtain ⟨t4,ht4,h⟩:=bnd h
    obtain rfl:=fneg_s ht4
    exact hJ5 _ _ ⟨_,some_inj h,rfl,hS⟩
   exact hJ5 _ _ ⟨_,some_inj h,rfl,hS⟩
  clear h5 hS
  rintro s w ⟨z4,rfl,rfl,hS⟩
  have h:=c5
  clear c5
  try dsimp only
  exact hJ2 _ _ ⟨_,some_inj h,rfl,hS⟩
 clear h2 hS
 rintro s w ⟨z1,rfl,rfl,hS⟩
 have h:=c2
 clear c2
 try dsimp only
 obtain ⟨t5,ht5,h⟩:=bnd h
 obtain rfl:=fgt_s ht5
 cases some_inj h
 exact hK _ hS
theorem wk_sums_finite {q0 qh qn vu u0} (hS:Ho w0 w L) (qu:EF L vu q0 qh qn) (h:T_sums_finite (List.map nf vu)=some u0) (hK:∀ w1,Ho w0 w1 L→K (.bool u0) w1):CallsX P N.f_sums_finite #[.slice q0 qh qn] w K:=by
 refine H.sums_finite q0 qh qn w _ ?_
 unfold S_sums_finite
 unfold T_sums_finite at h
 try dsimp only
 obtain ⟨t1,ht1,h⟩:=bnd h
 obtain rfl:=lenF ht1 (qu.now (fun _ h=>h) hS)
 obtain ⟨o1,h1,c1⟩:=bnd h
 refine cutM_i (fun s w =>  .inl ()=o1∧s=(())∧Ho w0 w L) (fun J1 hJ1=>?_) ?_
 ·
  have h:=h1
  clear h1
  refine iter_sim (fun s w t=>∃ (t2:Int),t2=t∧s=(t2,())∧Ho w0 w L) ?_ h ⟨_,rfl,rfl,hS⟩
  clear h hS
  rintro s w t X q ⟨t2,rfl,rfl,hS⟩ h hX hO
  unfold T_sums_finite_b2 at h
  try dsimp only
  refine cond_s h ?_ ?_<;>intro hc h
  ·
   obtain ⟨t3,ht3,h⟩:=bnd h
   obtain ⟨z2,rfl,q3x,vt,q3r⟩:=atF ht3
   refine idx_s (qu.now (fun _ h=>h) hS) q3x vt q3r ?_;intro b4 hb4
   refine ⟨_,rd_get (qu.now (fun _ h=>h) hS) hb4 q3x,?_⟩
   obtain ⟨t4,ht4,h⟩:=bnd h
   refine wk_math_IsNaN H hS  ht4 ?_;rintro w hS
   refine ⟨_,rfl,?_⟩
   refine cond_s h ?_ ?_<;>intro hc h
   ·
    obtain ⟨t5,ht5,h⟩:=bnd h
    refine wk_math_IsInf H hS  ht5 ?_;rintro w hS
    refine ⟨_,rfl,?_⟩
    refine cond_s h ?_ ?_<;>intro hc h
    ·
     obtain rfl:=some_inj h
     have h:=congrArg some (hO _ rfl)
     obtain rfl:=some_inj h
     have h:=c1
     cases some_inj h
     exact hK _ hS
    obtain rfl:=some_inj h
    exact hX _ rfl _ _ ⟨_,rfl,rfl,hS⟩
   obtain rfl:=some_inj h
   have h:=congrArg some (hO _ rfl)
   obtain rfl:=some_inj h
   have h:=c1
   cases some_inj h
   exact hK _ hS
  obtain rfl:=some_inj h
  have h:=congrArg some (hO _ rfl)
  exact hJ1 _ _ ⟨some_inj h,rfl,hS⟩
 clear h1 hS
 rintro s w ⟨rfl,rfl,hS⟩
 have h:=c1
 clear c1
 try dsimp only
 cases some_inj h
 exact hK _ hS
theorem wk_bits_Kind {q0 u0} (hS:Ho w0 w L)  (h:T_bits_Kind (nf q0)=some u0) (hK:∀ w1,Ho w0 w1 L→K (.int .i64 u0) w1):CallsX P N.f_bits_Kind #[.float .f64 q0] w K:=by
 refine H.bits_Kind q0 w _ ?_
 unfold S_bits_Kind
 unfold T_bits_Kind at h
 try dsimp only
 obtain ⟨t1,ht1,h⟩:=bnd h
 refine wk_math_Abs H hS  ht1 ?_;rintro z1 w rfl hS
 refine ⟨_,rfl,?_⟩
 obtain ⟨t2,ht2,h⟩:=bnd h
 obtain rfl:=fne_s ht2
 refine cond_s h ?_ ?_<;>intro hc h
 ·
  cases some_inj h
  exact hK _ hS
 obtain ⟨t3,ht3,h⟩:=bnd h
 refine wk_math_IsInf H hS  ht3 ?_;rintro w hS
 refine ⟨_,rfl,?_⟩
 refine cond_s h ?_ ?_<;>intro hc h
 ·
  cases some_inj h
  exact hK _ hS
 obtain ⟨t4,ht4,h⟩:=bnd h
 obtain rfl:=fge_s ht4
 refine cond_s h ?_ ?_<;>intro hc h
 ·
  cases some_inj h
  exact hK _ hS
 obtain ⟨t5,ht5,h⟩:=bnd h
 obtain rfl:=fgt_s ht5
 refine cond_s h ?_ ?_<;>intro hc h
 ·
  cases some_inj h
  exact hK _ hS
 cases some_inj h
 exact hK _ hS
theorem wk_math_Signbit {q0 u0} (hS:Ho w0 w L)  (hx:T_math_Signbit (nf q0)=some u0) (hK:∀ w1,Ho w0 w1 L→K (.bool u0) w1):CallsX P N.f_math_Signbit #[.float .f64 q0] w K:=by
 unfold T_math_Signbit at hx
 have hn:isNaN q0=false:=by
  cases e:isNaN q0 with
  | false=>rfl
  | true=>rw [isNaN_nf,e] at hx;cases hx
 rw [isNaN_nf,hn,nf_of_not hn] at hx
 have hx:=some_inj hx
 subst hx
 refine (signbit_c H q0 w).mono ?_
 rintro _ w1 ⟨rfl,h1⟩
 exact hK _ (hS.next h1)
theorem wk_math_normalize {q0 u0 u1} (hS:Ho w0 w L)  (h:T_math_normalize (nf q0)=some (u0,u1)) (hK:∀ (z0:Nat) (w1:World),nf z0=u0→Ho w0 w1 L→K (.tuple #[.float .f64 z0,.int .i64 u1]) w1):CallsX P N.f_math_normalize #[.float .f64 q0] w K:=by
 refine H.math_normalize q0 w _ ?_
 unfold S_math_normalize
 unfold T_math_normalize at h
 try dsimp only
 obtain ⟨t1,ht1,h⟩:=bnd h
 refine wk_math_Abs H hS  ht1 ?_;rintro z1 w rfl hS
 refine ⟨_,rfl,?_⟩
 obtain ⟨t2,ht2,h⟩:=bnd h
 obtain rfl:=flt_s ht2
 refine cond_s h ?_ ?_<;>intro hc h
 ·
  obtain ⟨t3,ht3,h⟩:=bnd h
  refine fmul_s ht3 hS ?_;rintro z2 w rfl hS
  cases some_inj h
  exact hK _ _ rfl hS
 cases some_inj h
 exact hK _ _ rfl hS
theorem wk_math_frexp {q0 u0 u1} (hS:Ho w0 w L)  (h:T_math_frexp (nf q0)=some (u0,u1)) (hK:∀ (z0:Nat) (w1:World),nf z0=u0→Ho w0 w1 L→K (.tuple #[.float .f64 z0,.int .i64 u1]) w1):CallsX P N.f_math_frexp #[.float .f64 q0] w K:=by
 refine H.math_frexp q0 w _ ?_
 unfold S_math_frexp
 unfold T_math_frexp at h
 try dsimp only
 obtain ⟨t1,ht1,h⟩:=bnd h
 obtain rfl:=feq_s ht1
 refine cond_s h ?_ ?_<;>intro hc h
 ·
  cases some_inj h
  exact hK _ _ rfl hS
 obtain ⟨t2,ht2,h⟩:=bnd h
 refine wk_math_IsInf H hS  ht2 ?_;rintro w hS
 refine ⟨_,rfl,?_⟩
 refine cond_s h ?_ ?_<;>intro hc h
 ·
  obtain ⟨t3,ht3,h⟩:=bnd h
  refine wk_math_IsNaN H hS  ht3 ?_;rintro w hS
  refine ⟨_,rfl,?_⟩
  refine cond_s h ?_ ?_<;>intro hc h
  ·
   cases some_inj h
   exact hK _ _ rfl hS
  obtain ⟨⟨t4,t5⟩,ho4,h⟩:=bnd h
  refine wk_math_normalize H hS  ho4 ?_;clear hS ho4;rintro z1 w rfl hS
  refine ⟨_,_,rfl,?_⟩
  obtain ⟨t6,ht6,h⟩:=bnd h
  refine wk_math_Float64bits H hS  ht6 ?_;rintro w hS
  refine ⟨_,rfl,?_⟩
  refine ⟨by decide,?_⟩
  obtain ⟨t7,ht7,h⟩:=bnd h
  refine wk_math_Float64frombits H hS  ht7 ?_;rintro z2 w rfl hS
  refine ⟨_,rfl,?_⟩
  cases some_inj h
  exact hK _ _ rfl hS
 cases some_inj h
 exact hK _ _ rfl hS
theorem wk_math_Frexp {q0 u0 u1} (hS:Ho w0 w L)  (h:T_math_Frexp (nf q0)=some (u0,u1)) (hK:∀ (z0:Nat) (w1:World),nf z0=u0→Ho w0 w1 L→K (.tuple #[.float .f64 z0,.int .i64 u1]) w1):CallsX P N.f_math_Frexp #[.float .f64 q0] w K:=by
 refine H.math_Frexp q0 w _ ?_
 unfold S_math_Frexp
 unfold T_math_Frexp at h
 try dsimp only
 obtain ⟨⟨t1,t2⟩,ho1,h⟩:=bnd h
 refine wk_math_frexp H hS  ho1 ?_;clear hS ho1;rintro z1 w rfl hS
 refine ⟨_,_,rfl,?_⟩
 cases some_inj h
 exact hK _ _ rfl hS
theorem wk_math_Copysign {q0 q1 u0} (hS:Ho w0 w L)  (hx:T_math_Copysign (nf q0) (nf q1)=some u0) (hK:∀ (z0:Nat) (w1:World),nf z0=u0→Ho w0 w1 L→K (.float .f64 z0) w1):CallsX P N.f_math_Copysign #[.float .f64 q0,.float .f64 q1] w K:=by
 unfold T_math_Copysign at hx
 have hn:isNaN q1=false:=by
  cases e:isNaN q1 with
  | false=>rfl
  | true=>rw [isNaN_nf,e] at hx;cases hx
 rw [isNaN_nf,hn,nf_of_not hn] at hx
 have hx:=some_inj hx
 refine (copysign_c H q0 q1 w).mono ?_
 rintro _ w1 ⟨rfl,h1⟩
 exact hK _ _ ((nf_copy _ _).symm.trans hx) (hS.next h1)
theorem wk_math_Inf {q0 u0} (hS:Ho w0 w L)  (h:T_math_Inf q0=some u0) (hK:∀ (z0:Nat) (w1:World),nf z0=u0→Ho w0 w1 L→K (.float .f64 z0) w1):CallsX P N.f_math_Inf #[.int .i64 q0] w K:=by
 refine H.math_Inf q0 w _ ?_
 unfold S_math_Inf
 unfold T_math_Inf at h
 try dsimp only
 obtain ⟨o1,h1,c1⟩:=bnd h
 refine cutM_i (fun s w=>∃ (t1:Int),t1=o1∧s=(t1,())∧Ho w0 w L) (fun J1 hJ1=>?_) ?_
 ·
  have h:=h1
  clear h1
  refine cond_s h ?_ ?_<;>intro hc h
  ·
   exact hJ1 _ _ ⟨_,some_inj h,rfl,hS⟩
  exact hJ1 _ _ ⟨_,some_inj h,rfl,hS⟩
 clear h1 hS
 rintro s w ⟨t1,rfl,rfl,hS⟩
 have h:=c1
 clear c1
 try dsimp only
 obtain ⟨t2,ht2,h⟩:=bnd h
 refine wk_math_Float64frombits H hS  ht2 ?_;rintro z2 w rfl hS
 refine ⟨_,rfl,?_⟩
 cases some_inj h
 exact hK _ _ rfl hS
theorem wk_math_ldexp {q0 q1 u0} (hS:Ho w0 w L)  (h:T_math_ldexp (nf q0) q1=some u0) (hK:∀ (z0:Nat) (w1:World),nf z0=u0→Ho w0 w1 L→K (.float .f64 z0) w1):CallsX P N.f_math_ldexp #[.float .f64 q0,.int .i64 q1] w K:=by
 refine H.math_ldexp q0 q1 w _ ?_
 unfold S_math_ldexp
 unfold T_math_ldexp at h
 try dsimp only
 obtain ⟨t1,ht1,h⟩:=bnd h
 obtain rfl:=feq_s ht1
 refine cond_s h ?_ ?_<;>intro hc h
 ·
  cases some_inj h
  exact hK _ _ rfl hS
 obtain ⟨o1,h1,c1⟩:=bnd h
 refine cutM_i (fun s w=>∃ (t2:Bool),t2=o1∧s=(t2,())∧Ho w0 w L) (fun J1 hJ1=>?_) ?_
 ·
  have h:=h1
  clear h1
  obtain ⟨t3,ht3,h⟩:=bnd h
  refine wk_math_IsInf H hS  ht3 ?_;rintro w hS
  refine ⟨_,rfl,?_⟩
  refine cond_s h ?_ ?_<;>intro hc h
  ·
   obtain ⟨t4,ht4,h⟩:=bnd h
   refine wk_math_IsNaN H hS  ht4 ?_;rintro w hS
   refine ⟨_,rfl,?_⟩
   exact hJ1 _ _ ⟨_,some_inj h,rfl,hS⟩
  exact hJ1 _ _ ⟨_,some_inj h,rfl,hS⟩
 clear h1 hS
 rintro s w ⟨t2,rfl,rfl,hS⟩
 have h:=c1
 clear c1
 try dsimp only
 refine cond_s h ?_ ?_<;>intro hc h
 ·
  cases some_inj h
  exact hK _ _ rfl hS
 obtain ⟨⟨t5,t6⟩,ho5,h⟩:=bnd h
 refine wk_math_normalize H hS  ho5 ?_;clear hS ho5;rintro z2 w rfl hS
 refine ⟨_,_,rfl,?_⟩
 obtain ⟨t7,ht7,h⟩:=bnd h
 refine wk_math_Float64bits H hS  ht7 ?_;rintro w hS
 refine ⟨_,rfl,?_⟩
 refine ⟨by decide,?_⟩
 refine cond_s h ?_ ?_<;>intro hc h
 ·
  obtain ⟨t8,ht8,h⟩:=bnd h
  refine wk_math_Copysign H hS  ht8 ?_;rintro z3 w rfl hS
  refine ⟨_,rfl,?_⟩
  cases some_inj h
  exact hK _ _ rfl hS
 refine cond_s h ?_ ?_<;>intro hc h
 ·
  obtain ⟨t9,ht9,h⟩:=bnd h
  obtain rfl:=flt_s ht9
  refine cond_s h ?_ ?_<;>intro hc h
  ·
   obtain ⟨t10,ht10,h⟩:=bnd h
   refine wk_math_Inf H hS  ht10 ?_;rintro z4 w rfl hS
   refine ⟨_,rfl,?_⟩
   cases some_inj h
   exact hK _ _ rfl hS
  obtain ⟨t11,ht11,h⟩:=bnd h
  refine wk_math_Inf H hS  ht11 ?_;rintro z5 w rfl hS
  refine ⟨_,rfl,?_⟩
  cases some_inj h
  exact hK _ _ rfl hS
 obtain ⟨o7,h7,c7⟩:=bnd h
 refine cutM_i (fun s w=>∃ (t12:Int) (z6:Nat),(t12,(nf z6))=o7∧s=(t12,z6,())∧Ho w0 w L) (fun J7 hJ7=>?_) ?_
 ·
  have h:=h7
  clear h7
  refine cond_s h ?_ ?_<;>intro hc h
  ·
   exact hJ7 _ _ ⟨_,_,some_inj h,rfl,hS⟩
  exact hJ7 _ _ ⟨_,_,some_inj h,rfl,hS⟩
 clear h7 hS
 rintro s w ⟨t12,z6,rfl,rfl,hS⟩
 have h:=c7
 clear c7
 try dsimp only
 refine ⟨by decide,?_⟩
 obtain ⟨t14,ht14,h⟩:=bnd h
 refine wk_math_Float64frombits H hS  ht14 ?_;rintro z8 w rfl hS
 refine ⟨_,rfl,?_⟩
 obtain ⟨t15,ht15,h⟩:=bnd h
 refine fmul_s ht15 hS ?_;rintro z9 w rfl hS
 cases some_inj h
 exact hK _ _ rfl hS
theorem wk_math_Ldexp {q0 q1 u0} (hS:Ho w0 w L)  (h:T_math_Ldexp (nf q0) q1=some u0) (hK:∀ (z0:Nat) (w1:World),nf z0=u0→Ho w0 w1 L→K (.float .f64 z0) w1):CallsX P N.f_math_Ldexp #[.float .f64 q0,.int .i64 q1] w K:=by
 refine H.math_Ldexp q0 q1 w _ ?_
 unfold S_math_Ldexp
 unfold T_math_Ldexp at h
 try dsimp only
 obtain ⟨t1,ht1,h⟩:=bnd h
 refine wk_math_ldexp H hS  ht1 ?_;rintro z1 w rfl hS
 refine ⟨_,rfl,?_⟩
 cases some_inj h
 exact hK _ _ rfl hS
theorem wk_math_bits_TrailingZeros64 {q0 u0} (hS:Ho w0 w L) (hG:Ent L (tab64 N.g_1)) (hx:T_math_bits_TrailingZeros64 q0=some u0) (hK:∀ w1,Ho w0 w1 L→K (.int .i64 u0) w1):CallsX P N.f_math_bits_TrailingZeros64 #[.int .u64 q0] w K:=by
 unfold T_math_bits_TrailingZeros64 at hx
 have hx:=some_inj hx
 subst hx
 exact tz64_c H hS hG hK
theorem wk_bits_Split {q0 u0 u1 u2 u3} (hS:Ho w0 w L) (hG:Ent L (tab64 N.g_1)) (h:T_bits_Split (nf q0)=some (u0,u1,u2,u3)) (hK:∀ w1,Ho w0 w1 L→K (.tuple #[.agg #[.bool u0,.int .u64 u1,.int .i64 u2],.bool u3]) w1):CallsX P N.f_bits_Split #[.float .f64 q0] w K:=by
 refine H.bits_Split q0 w _ ?_
 unfold S_bits_Split
 unfold T_bits_Split at h
 try dsimp only
 refine newM_s hS ?_;intro r1 w hS
 obtain ⟨t1,ht1,h⟩:=bnd h
 refine wk_bits_Kind H hS  ht1 ?_;rintro w hS
 refine ⟨_,rfl,?_⟩
 refine cond_s h ?_ ?_<;>intro hc h
 ·
  refine stc_s hS rfl rfl ?_;intro w hS
  refine stc_s hS rfl rfl ?_;intro w hS
  refine stc_s hS rfl rfl ?_;intro w hS
  refine ⟨_,hS.cel mp0 rfl,_,hS.cel mp0 rfl,_,hS.cel mp0 rfl,?_⟩
  cases some_inj h
  exact hK _ (hS.pick (A:=[_]) [] rfl)
 obtain ⟨t2,ht2,h⟩:=bnd h
 refine wk_math_Signbit H hS  ht2 ?_;rintro w hS
 refine ⟨_,rfl,?_⟩
 refine newM_s hS ?_;intro r2 w hS
 refine stc_s hS rfl rfl ?_;intro w hS
 refine stc_s hS rfl rfl ?_;intro w hS
 refine stc_s hS rfl rfl ?_;intro w hS
 obtain ⟨t3,ht3,h⟩:=bnd h
 obtain rfl:=feq_s ht3
 refine cond_s h ?_ ?_<;>intro hc h
 ·
  refine ⟨_,hS.cel mp0 rfl,_,hS.cel mp0 rfl,_,hS.cel mp0 rfl,?_⟩
  replace hS:=ro1 hS
  refine stc_s hS rfl rfl ?_;intro w hS
  refine stc_s hS rfl rfl ?_;intro w hS
  refine stc_s hS rfl rfl ?_;intro w hS
  refine ⟨_,hS.cel mp0 rfl,_,hS.cel mp0 rfl,_,hS.cel mp0 rfl,?_⟩
  cases some_inj h
  exact hK _ (hS.pick (A:=[_,_]) [] rfl)
 obtain ⟨t4,ht4,h⟩:=bnd h
 refine wk_math_Abs H hS  ht4 ?_;rintro z3 w rfl hS
 refine ⟨_,rfl,?_⟩
 obtain ⟨⟨t5,t6⟩,ho5,h⟩:=bnd h
 refine wk_math_Frexp H hS  ho5 ?_;clear hS ho5;rintro z4 w rfl hS
 refine ⟨_,_,rfl,?_⟩
 obtain ⟨t7,ht7,h⟩:=bnd h
 refine wk_math_Ldexp H hS  ht7 ?_;rintro z5 w rfl hS
 refine ⟨_,rfl,?_⟩
 obtain ⟨t8,ht8,h⟩:=bnd h
 refine f2i_s ht8 hS ?_;intro w hS
 refine stc_s hS rfl rfl ?_;intro w hS
 refine ⟨_,hS.cel mp0 rfl,?_⟩
 obtain ⟨t9,ht9,h⟩:=bnd h
 refine wk_math_bits_TrailingZeros64 H hS (hG.mono tl2) ht9 ?_;rintro w hS
 refine ⟨_,rfl,?_⟩
 refine ⟨_,hS.cel mp0 rfl,?_⟩
 obtain ⟨t10,ht10,h⟩:=bnd h
 refine ⟨nn_s ht10,?_⟩
 refine stc_s hS rfl rfl ?_;intro w hS
 refine stc_s hS rfl rfl ?_;intro w hS
 refine ⟨_,hS.cel mp0 rfl,_,hS.cel mp0 rfl,_,hS.cel mp0 rfl,?_⟩
 replace hS:=ro1 hS
 refine stc_s hS rfl rfl ?_;intro w hS
 refine stc_s hS rfl rfl ?_;intro w hS
 refine stc_s hS rfl rfl ?_;intro w hS
 refine ⟨_,hS.cel mp0 rfl,_,hS.cel mp0 rfl,_,hS.cel mp0 rfl,?_⟩
 cases some_inj h
 exact hK _ (hS.pick (A:=[_,_]) [] rfl)
theorem wk_dyad_Of {q0 u0 u1 u2 u3} (hS:Ho w0 w L) (hG:Ent L (tab64 N.g_1)) (h:T_dyad_Of (nf q0)=some (u0,u1,u2,u3)) (hK:∀ (a1:OA) (n1 c1:Nat) (w1:World),Ho w0 w1 ((sl a1 n1 c1 (List.map (Value.int .u64) u1) N.t_uint64)::L)→K (.tuple #[.agg #[.bool u0,.slice a1 n1 c1,.int .i64 u2],.int .i64 u3]) w1):CallsX P N.f_dyad_Of #[.float .f64 q0] w K:=by
 refine H.dyad_Of q0 w _ ?_
 unfold S_dyad_Of
 unfold T_dyad_Of at h
 try dsimp only
 refine newM_s hS ?_;intro r1 w hS
 obtain ⟨⟨t1,t2,t3,t4⟩,ho1,h⟩:=bnd h
 refine wk_bits_Split H hS (hG.mono tl1) ho1 ?_;clear hS ho1;rintro w hS
 refine ⟨_,_,_,_,rfl,?_⟩
 refine newM_s hS ?_;intro r2 w hS
 refine stc_s hS rfl rfl ?_;intro w hS
 refine stc_s hS rfl rfl ?_;intro w hS
 refine stc_s hS rfl rfl ?_;intro w hS
 refine cond_s h ?_ ?_<;>intro hc h
 ·
  replace hS:=ro1 hS
  refine stc_s hS rfl rfl ?_;intro w hS
  refine stc_s hS rfl rfl ?_;intro w hS
  refine stc_s hS rfl rfl ?_;intro w hS
  refine ⟨_,hS.cel mp0 rfl,_,_,_,hS.cel mp0 rfl,_,hS.cel mp0 rfl,?_⟩
  replace hS:=hS.none (α:=Int) (enc:=(Value.int .u64)) (t:=N.t_uint64)
  cases some_inj h
  exact hK _ _ _ _ (hS.pick (A:=[_,_,_]) [0] rfl)
 refine ⟨_,hS.cel mp0 rfl,?_⟩
 refine cond_s h ?_ ?_<;>intro hc h
 ·
  replace hS:=ro1 hS
  refine stc_s hS rfl rfl ?_;intro w hS
  refine stc_s hS rfl rfl ?_;intro w hS
  refine stc_s hS rfl rfl ?_;intro w hS
  refine ⟨_,hS.cel mp0 rfl,_,_,_,hS.cel mp0 rfl,_,hS.cel mp0 rfl,?_⟩
  replace hS:=hS.none (α:=Int) (enc:=(Value.int .u64)) (t:=N.t_uint64)
  cases some_inj h
  exact hK _ _ _ _ (hS.pick (A:=[_,_,_]) [0] rfl)
 refine ⟨_,hS.cel mp0 rfl,_,hS.cel mp0 rfl,?_⟩
 obtain ⟨t5,ht5,h⟩:=bnd h
 obtain rfl:([t2]:List Int)=t5:=some_inj ht5
 refine lit_s (ks:=[t2]) (enc:=(Value.int .u64)) (m:=1) hS rfl rfl ?_;intro r3 w hS
 refine ⟨_,hS.cel mp1 rfl,?_⟩
 replace hS:=ro2 hS
 refine stc_s hS rfl rfl ?_;intro w hS
 refine stc_s hS rfl rfl ?_;intro w hS
 refine stc_s hS rfl rfl ?_;intro w hS
 refine ⟨_,hS.cel mp0 rfl,_,_,_,hS.cel mp0 rfl,_,hS.cel mp0 rfl,?_⟩
 cases some_inj h
 exact hK _ _ _ _ (hS.pick (A:=[_,_,_]) [1] rfl)
theorem wk_dyad_Right {qa qb qf qg l0_1 qc u0} (hS:Ho w0 w L) (qo:EU L l0_1 qb qf qg) (h:T_dyad_Right qa l0_1 qc=some u0) (hK:∀ w1,Ho w0 w1 L→K (.bool u0) w1):CallsX P N.f_dyad_Right #[.agg #[.bool qa,.slice qb qf qg,.int .i64 qc]] w K:=by
 refine H.dyad_Right qa qb qf qg qc w _ ?_
 unfold S_dyad_Right
 unfold T_dyad_Right at h
 try dsimp only
 refine newM_s hS ?_;intro r1 w hS
 refine ⟨_,_,_,hS.cel mp0 rfl,?_⟩
 obtain ⟨t1,ht1,h⟩:=bnd h
 obtain rfl:=lenE ht1 ((qo.mono tl1).now (fun _ h=>h) hS)
 refine cond_s h ?_ ?_<;>intro hc h
 ·
  refine ⟨_,hS.cel mp0 rfl,?_⟩
  refine cond_s h ?_ ?_<;>intro hc h
  ·
   refine ⟨_,hS.cel mp0 rfl,?_⟩
   cases some_inj h
   exact hK _ (hS.pick (A:=[_]) [] rfl)
  cases some_inj h
  exact hK _ (hS.pick (A:=[_]) [] rfl)
 refine cond_s h ?_ ?_<;>intro hc h
 ·
  refine ⟨_,_,_,hS.cel mp0 rfl,?_⟩
  obtain ⟨t2,ht2,h⟩:=bnd h
  obtain ⟨q2x,qx,q2r⟩:=atE ht2
  refine idx_s ((qo.mono tl1).now (fun _ h=>h) hS) q2x qx q2r ?_;intro b3 hb3
  refine ⟨_,rd_get ((qo.mono tl1).now (fun _ h=>h) hS) hb3 q2x,?_⟩
  refine cond_s h ?_ ?_<;>intro hc h
  ·
   refine ⟨_,_,_,hS.cel mp0 rfl,?_⟩
   obtain ⟨t3,ht3,h⟩:=bnd h
   obtain ⟨q4x,jd,q4r⟩:=atE ht3
   refine idx_s ((qo.mono tl1).now (fun _ h=>h) hS) q4x jd q4r ?_;intro b5 hb5
   refine ⟨_,rd_get ((qo.mono tl1).now (fun _ h=>h) hS) hb5 q4x,?_⟩
   refine cond_s h ?_ ?_<;>intro hc h
   ·
    refine ⟨_,hS.cel mp0 rfl,?_⟩
    refine cond_s h ?_ ?_<;>intro hc h
    ·
     refine ⟨_,hS.cel mp0 rfl,?_⟩
     cases some_inj h
     exact hK _ (hS.pick (A:=[_]) [] rfl)
    cases some_inj h
    exact hK _ (hS.pick (A:=[_]) [] rfl)
   cases some_inj h
   exact hK _ (hS.pick (A:=[_]) [] rfl)
  cases some_inj h
  exact hK _ (hS.pick (A:=[_]) [] rfl)
 cases some_inj h
 exact hK _ (hS.pick (A:=[_]) [] rfl)
theorem wk_dyad_both {qa qb qf qg l0_1 qc ql qm qi qj l1_1 qt u0} (hS:Ho w0 w L) (qo:EU L l0_1 qb qf qg) (qr:EU L l1_1 qm qi qj) (h:T_dyad_both qa l0_1 qc ql l1_1 qt=some u0) (hK:∀ w1,Ho w0 w1 L→K (.bool u0) w1):CallsX P N.f_dyad_both #[.agg #[.bool qa,.slice qb qf qg,.int .i64 qc],.agg #[.bool ql,.slice qm qi qj,.int .i64 qt]] w K:=by
 refine H.dyad_both qa qb qf qg qc ql qm qi qj qt w _ ?_
 unfold S_dyad_both
 unfold T_dyad_both at h
 try dsimp only
 refine newM_s hS ?_;intro r1 w hS
 refine newM_s hS ?_;intro r2 w hS
 refine ⟨_,hS.cel mp1 rfl,_,_,_,hS.cel mp1 rfl,_,hS.cel mp1 rfl,?_⟩
 obtain ⟨t1,ht1,h⟩:=bnd h
 refine wk_dyad_Right H hS (qo.mono tl2) ht1 ?_;rintro w hS
 refine ⟨_,rfl,?_⟩
 refine cond_s h ?_ ?_<;>intro hc h
 ·
  refine ⟨_,hS.cel mp0 rfl,_,_,_,hS.cel mp0 rfl,_,hS.cel mp0 rfl,?_⟩
  obtain ⟨t2,ht2,h⟩:=bnd h
  refine wk_dyad_Right H hS (qr.mono tl2) ht2 ?_;rintro w hS
  refine ⟨_,rfl,?_⟩
  cases some_inj h
  exact hK _ (hS.pick (A:=[_,_]) [] rfl)
 cases some_inj h
 exact hK _ (hS.pick (A:=[_,_]) [] rfl)
theorem wk_dyad_whole {qa qb qf qg l0_1 qc u0} (hS:Ho w0 w L) (qo:EU L l0_1 qb qf qg) (h:T_dyad_whole qa l0_1 qc=some u0) (hK:∀ (r0:Nat) (a0:OA) (n0 c0:Nat) (w1:World),Ho w0 w1 ((bg N.t_bn_Int N.t_uint32 r0 a0 n0 c0 u0)::L)→K (.pointer (some ⟨r0,0,none⟩)) w1):CallsX P N.f_dyad_whole #[.agg #[.bool qa,.slice qb qf qg,.int .i64 qc]] w K:=by
 refine H.dyad_whole qa qb qf qg qc w _ ?_
 unfold S_dyad_whole
 unfold T_dyad_whole at h
 try dsimp only
 refine newM_s hS ?_;intro r1 w hS
 refine newM_s hS ?_;intro r2 w hS;replace hS:=Ho.bgNew (E:=N.t_uint32) hS
 refine ⟨_,_,_,hS.cel mp1 rfl,?_⟩
 obtain ⟨t1,ht1,h⟩:=bnd h
 obtain rfl:=lenE ht1 ((qo.mono tl2).now (fun _ h=>h) hS)
 obtain ⟨o6,h6,c6⟩:=bnd h
 refine cutM_i (fun s w=>∃ (a3:OA) (m4:Nat) (c5:Nat) (t2:Int),t2=o6∧s=(())∧Ho w0 w ((bg N.t_bn_Int N.t_uint32 r2 a3 m4 c5 t2)::(cl r1 [.bool qa,.slice qb qf qg,.int .i64 qc] N.t_Dyad)::L)) (fun J6 hJ6=>?_) ?_
 ·
  have h:=h6
  clear h6
  refine iter_sim (fun s w t=>∃ (t3:Int) (a7:OA) (m8:Nat) (c9:Nat) (t4:Int),(t3,t4)=t∧s=(t3,())∧Ho w0 w ((bg N.t_bn_Int N.t_uint32 r2 a7 m8 c9 t4)::(cl r1 [.bool qa,.slice qb qf qg,.int .i64 qc] N.t_Dyad)::L)) ?_ h ⟨_,_,_,_,_,rfl,rfl,hS⟩
  clear h hS
  rintro s w t X q ⟨t3,a7,m8,c9,t4,rfl,rfl,hS⟩ h hX hO
  unfold T_dyad_whole_b2 at h
  try dsimp only
  refine cond_s h ?_ ?_<;>intro hc h
  ·
   obtain ⟨t5,ht5,h⟩:=bnd h
   refine big_Lsh_zz H hS  ht5 ?_;intro a10 m10 c10 w hS
   refine ⟨_,rfl,?_⟩
   refine newM_s hS ?_;intro r11 w hS;replace hS:=Ho.bgNew (E:=N.t_uint32) hS
   refine ⟨_,_,_,hS.cel mp2 rfl,_,_,_,hS.cel mp2 rfl,?_⟩
   obtain ⟨t6,ht6,h⟩:=bnd h
   obtain rfl:=lenE ht6 ((qo.mono tl3).now (fun _ h=>h) hS)
   obtain ⟨t7,ht7,h⟩:=bnd h
   obtain ⟨q12x,gh,q12r⟩:=atE ht7
   refine idx_s ((qo.mono tl3).now (fun _ h=>h) hS) q12x gh q12r ?_;intro b13 hb13
   refine ⟨_,rd_get ((qo.mono tl3).now (fun _ h=>h) hS) hb13 q12x,?_⟩
   obtain ⟨t8,ht8,h⟩:=bnd h
   refine big_SetUint64_z H hS  ht8 ?_;intro a14 m14 c14 w hS
   refine ⟨_,rfl,?_⟩
   obtain ⟨t9,ht9,h⟩:=bnd h
   replace hS:=ro1 hS
   refine big_Or_zzy H hS (Ent.bg mp0) ht9 ?_;intro a15 m15 c15 w hS
   refine ⟨_,rfl,?_⟩
   obtain rfl:=some_inj h
   exact hX _ rfl _ _ ⟨_,_,_,_,_,rfl,rfl,(hS.pick (A:=[_,_,_]) [0,1] rfl)⟩
  obtain rfl:=some_inj h
  have h:=congrArg some (hO _ rfl)
  exact hJ6 _ _ ⟨_,_,_,_,some_inj h,rfl,hS⟩
 clear h6 hS
 rintro s w ⟨a3,m4,c5,t2,rfl,rfl,hS⟩
 have h:=c6
 clear c6
 try dsimp only
 refine ⟨_,hS.cel mp1 rfl,?_⟩
 obtain ⟨o19,h19,c19⟩:=bnd h
 refine cutM_i (fun s w=>∃ (a16:OA) (m17:Nat) (c18:Nat) (t10:Int),t10=o19∧s=(())∧Ho w0 w ((bg N.t_bn_Int N.t_uint32 r2 a16 m17 c18 t10)::L)) (fun J19 hJ19=>?_) ?_
 ·
  have h:=h19
  clear h19
  refine cond_s h ?_ ?_<;>intro hc h
  ·
   obtain ⟨t11,ht11,h⟩:=bnd h
   refine big_Neg_zz H hS  ht11 ?_;intro a20 m20 c20 w hS
   refine ⟨_,rfl,?_⟩
   obtain rfl:=some_inj h
   exact hJ19 _ _ ⟨_,_,_,_,rfl,rfl,(hS.pick (A:=[_,_]) [0] rfl)⟩
  obtain rfl:=some_inj h
  exact hJ19 _ _ ⟨_,_,_,_,rfl,rfl,(hS.pick (A:=[_,_]) [0] rfl)⟩
 clear h19 hS
 rintro s w ⟨a16,m17,c18,t10,rfl,rfl,hS⟩
 have h:=c19
 clear c19
 try dsimp only
 cases some_inj h
 exact hK _ _ _ _ _ hS
theorem wk_dyad_limbs {q0 q0a qh qn y0 u0} (hS:Ho w0 w L) (qu:Ent L (bgR N.t_bn_Int q0 q0a qh qn y0)) (h:T_dyad_limbs y0=some u0) (hK:∀ (a0:OA) (n0 c0:Nat) (w1:World),Ho w0 w1 ((sl a0 n0 c0 (List.map (Value.int .u64) u0) N.t_uint64)::L)→K (.slice a0 n0 c0) w1):CallsX P N.f_dyad_limbs #[.pointer (some ⟨q0,0,none⟩)] w K:=by
 refine H.dyad_limbs (some ⟨q0,0,none⟩) w _ ?_
 unfold S_dyad_limbs
 unfold T_dyad_limbs at h
 try dsimp only
 refine newM_s hS ?_;intro r1 w hS;replace hS:=Ho.bgNew (E:=N.t_uint32) hS
 obtain ⟨t1,ht1,h⟩:=bnd h
 refine big_Abs_zx H hS qu ht1 ?_;intro a2 m2 c2 w hS
 refine ⟨_,rfl,?_⟩
 refine newM_s hS ?_;intro r3 w hS;replace hS:=Ho.bgNew (E:=N.t_uint32) hS
 refine newM_s hS ?_;intro r4 w hS;replace hS:=Ho.bgNew (E:=N.t_uint32) hS
 obtain ⟨t2,ht2,h⟩:=bnd h
 refine big_SetUint64_z H hS  ht2 ?_;intro a5 m5 c5 w hS
 refine ⟨_,rfl,?_⟩
 obtain ⟨o9,h9,c9⟩:=bnd h
 refine cutM_i (fun s w=>∃ (a6:OA) (m7:Nat) (c8:Nat) (t3:List Int),t3=o9∧s=((a6,m7,c8),())∧Ho w0 w ((sl a6 m7 c8 (List.map (Value.int .u64) t3) N.t_uint64)::L)) (fun J9 hJ9=>?_) ?_
 ·
  have h:=h9
  clear h9
  replace hS:=hS.none (α:=Int) (enc:=(Value.int .u64)) (t:=N.t_uint64)
  refine iter_sim (fun s w t=>∃ (a10:OA) (m11:Nat) (c12:Nat) (t4:Int) (a13:OA) (m14:Nat) (c15:Nat) (t5:Int) (a16:OA) (m17:Nat) (c18:Nat) (t6:List Int),(t4,t5,t6)=t∧s=((a16,m17,c18),())∧Ho w0 w ((bg N.t_bn_Int N.t_uint32 r4 a5 m5 c5 t2)::(bg N.t_bn_Int N.t_uint32 r3 a10 m11 c12 t4)::(bg N.t_bn_Int N.t_uint32 r1 a13 m14 c15 t5)::(sl a16 m17 c18 (List.map (Value.int .u64) t6) N.t_uint64)::L)) ?_ h ⟨_,_,_,_,_,_,_,_,_,_,_,_,rfl,rfl,(hS.pick (A:=[_,_,_,_]) [1,1,1,0] rfl)⟩
  clear h hS
  rintro s w t X q ⟨a10,m11,c12,t4,a13,m14,c15,t5,a16,m17,c18,t6,rfl,rfl,hS⟩ h hX hO
  unfold T_dyad_limbs_b2 at h
  try dsimp only
  obtain ⟨t7,ht7,h⟩:=bnd h
  refine big_Sign_x H hS (Ent.bg mp2) ht7 ?_;intro w hS
  refine ⟨_,rfl,?_⟩
  refine cond_s h ?_ ?_<;>intro hc h
  ·
   obtain ⟨t8,ht8,h⟩:=bnd h
   replace hS:=ro1 hS
   refine big_And_zxy H hS (Ent.bg mp1) (Ent.bg mp0) ht8 ?_;intro a19 m19 c19 w hS
   refine ⟨_,rfl,?_⟩
   obtain ⟨t9,ht9,h⟩:=bnd h
   refine big_Uint64_x H hS (Ent.bg mp0) ht9 ?_;intro w hS
   refine ⟨_,rfl,?_⟩
   obtain ⟨t10,ht10,h⟩:=bnd h
   obtain rfl:([t9]:List Int)=t10:=some_inj ht10
   refine lit_s (ks:=[t9]) (enc:=(Value.int .u64)) (m:=1) hS rfl rfl ?_;intro r20 w hS
   obtain ⟨t11,ht11,h⟩:=bnd h
   obtain ⟨rfl,kt11⟩:=appE ht11
   replace hS:=ro4 hS
   refine app_s hS kt11 ((Ent.sl mp1).now (fun _ h=>h) hS) (fun _=>rfl) rfl ?_;clear hS kt11;intro a21 c21 w hS
   obtain ⟨t12,ht12,h⟩:=bnd h
   replace hS:=ro4 hS
   refine big_Rsh_zz H hS  ht12 ?_;intro a22 m22 c22 w hS
   refine ⟨_,rfl,?_⟩
   obtain rfl:=some_inj h
   exact hX _ rfl _ _ ⟨_,_,_,_,_,_,_,_,_,_,_,_,rfl,rfl,(hS.pick (A:=[_,_,_,_,_]) [4,3,0,0] rfl)⟩
  obtain rfl:=some_inj h
  have h:=congrArg some (hO _ rfl)
  obtain rfl:=some_inj h
  exact hJ9 _ _ ⟨_,_,_,_,rfl,rfl,(hS.pick (A:=[_,_,_,_]) [3] rfl)⟩
 clear h9 hS
 rintro s w ⟨a6,m7,c8,t3,rfl,rfl,hS⟩
 have h:=c9
 clear c9
 try dsimp only
 cases some_inj h
 exact hK _ _ _ _ hS
theorem wk_dyad_made {q0 q0a qh qn y0 q1 u0 u1 u2 u3} (hS:Ho w0 w L) (qu:Ent L (bgR N.t_bn_Int q0 q0a qh qn y0)) (h:T_dyad_made y0 q1=some (u0,u1,u2,u3)) (hK:∀ (a1:OA) (n1 c1:Nat) (w1:World),Ho w0 w1 ((sl a1 n1 c1 (List.map (Value.int .u64) u1) N.t_uint64)::L)→K (.tuple #[.agg #[.bool u0,.slice a1 n1 c1,.int .i64 u2],.int .i64 u3]) w1):CallsX P N.f_dyad_made #[.pointer (some ⟨q0,0,none⟩),.int .i64 q1] w K:=by
 refine H.dyad_made (some ⟨q0,0,none⟩) q1 w _ ?_
 unfold S_dyad_made
 unfold T_dyad_made at h
 try dsimp only
 refine newM_s hS ?_;intro r1 w hS
 obtain ⟨t1,ht1,h⟩:=bnd h
 refine big_Sign_x H hS (qu.mono tl1) ht1 ?_;intro w hS
 refine ⟨_,rfl,?_⟩
 refine cond_s h ?_ ?_<;>intro hc h
 ·
  refine stc_s hS rfl rfl ?_;intro w hS
  refine stc_s hS rfl rfl ?_;intro w hS
  refine stc_s hS rfl rfl ?_;intro w hS
  refine ⟨_,hS.cel mp0 rfl,_,_,_,hS.cel mp0 rfl,_,hS.cel mp0 rfl,?_⟩
  replace hS:=hS.none (α:=Int) (enc:=(Value.int .u64)) (t:=N.t_uint64)
  cases some_inj h
  exact hK _ _ _ _ (hS.pick (A:=[_,_]) [0] rfl)
 obtain ⟨t2,ht2,h⟩:=bnd h
 refine big_TrailingZeroBits_x H hS (qu.mono tl1) ht2 ?_;intro w hS
 refine ⟨_,rfl,?_⟩
 refine cond_s h ?_ ?_<;>intro hc h
 ·
  refine stc_s hS rfl rfl ?_;intro w hS
  refine stc_s hS rfl rfl ?_;intro w hS
  refine stc_s hS rfl rfl ?_;intro w hS
  refine ⟨_,hS.cel mp0 rfl,_,_,_,hS.cel mp0 rfl,_,hS.cel mp0 rfl,?_⟩
  replace hS:=hS.none (α:=Int) (enc:=(Value.int .u64)) (t:=N.t_uint64)
  cases some_inj h
  exact hK _ _ _ _ (hS.pick (A:=[_,_]) [0] rfl)
 refine cond_s h ?_ ?_<;>intro hc h
 ·
  refine stc_s hS rfl rfl ?_;intro w hS
  refine stc_s hS rfl rfl ?_;intro w hS
  refine stc_s hS rfl rfl ?_;intro w hS
  refine ⟨_,hS.cel mp0 rfl,_,_,_,hS.cel mp0 rfl,_,hS.cel mp0 rfl,?_⟩
  replace hS:=hS.none (α:=Int) (enc:=(Value.int .u64)) (t:=N.t_uint64)
  cases some_inj h
  exact hK _ _ _ _ (hS.pick (A:=[_,_]) [0] rfl)
 refine cond_s h ?_ ?_<;>intro hc h
 ·
  refine stc_s hS rfl rfl ?_;intro w hS
  refine stc_s hS rfl rfl ?_;intro w hS
  refine stc_s hS rfl rfl ?_;intro w hS
  refine ⟨_,hS.cel mp0 rfl,_,_,_,hS.cel mp0 rfl,_,hS.cel mp0 rfl,?_⟩
  replace hS:=hS.none (α:=Int) (enc:=(Value.int .u64)) (t:=N.t_uint64)
  cases some_inj h
  exact hK _ _ _ _ (hS.pick (A:=[_,_]) [0] rfl)
 obtain ⟨t3,ht3,h⟩:=bnd h
 refine big_BitLen_x H hS (qu.mono tl1) ht3 ?_;intro w hS
 refine ⟨_,rfl,?_⟩
 refine cond_s h ?_ ?_<;>intro hc h
 ·
  refine stc_s hS rfl rfl ?_;intro w hS
  refine stc_s hS rfl rfl ?_;intro w hS
  refine stc_s hS rfl rfl ?_;intro w hS
  refine ⟨_,hS.cel mp0 rfl,_,_,_,hS.cel mp0 rfl,_,hS.cel mp0 rfl,?_⟩
  replace hS:=hS.none (α:=Int) (enc:=(Value.int .u64)) (t:=N.t_uint64)
  cases some_inj h
  exact hK _ _ _ _ (hS.pick (A:=[_,_]) [0] rfl)
 obtain ⟨t4,ht4,h⟩:=bnd h
 refine big_Sign_x H hS (qu.mono tl1) ht4 ?_;intro w hS
 refine ⟨_,rfl,?_⟩
 refine newM_s hS ?_;intro r2 w hS;replace hS:=Ho.bgNew (E:=N.t_uint32) hS
 refine newM_s hS ?_;intro r3 w hS;replace hS:=Ho.bgNew (E:=N.t_uint32) hS
 obtain ⟨t5,ht5,h⟩:=bnd h
 refine big_Abs_zx H hS (qu.mono tl2) ht5 ?_;intro a4 m4 c4 w hS
 refine ⟨_,rfl,?_⟩
 obtain ⟨t6,ht6,h⟩:=bnd h
 replace hS:=ro1 hS
 refine big_Rsh_zx H hS (Ent.bg mp0) ht6 ?_;intro a5 m5 c5 w hS
 refine ⟨_,rfl,?_⟩
 obtain ⟨t7,ht7,h⟩:=bnd h
 refine wk_dyad_limbs H hS (Ent.bg mp0) ht7 ?_;rintro a6 m6 c6 w hS
 refine ⟨_,_,_,rfl,?_⟩
 replace hS:=ro3 hS
 refine stc_s hS rfl rfl ?_;intro w hS
 refine stc_s hS rfl rfl ?_;intro w hS
 refine stc_s hS rfl rfl ?_;intro w hS
 refine ⟨_,hS.cel mp0 rfl,_,_,_,hS.cel mp0 rfl,_,hS.cel mp0 rfl,?_⟩
 cases some_inj h
 exact hK _ _ _ _ (hS.pick (A:=[_,_,_,_]) [1] rfl)
theorem wk_dyad_Mul {qa qb qf qg l0_1 qc ql qm qi qj l1_1 qt u0 u1 u2 u3} (hS:Ho w0 w L) (qo:EU L l0_1 qb qf qg) (qr:EU L l1_1 qm qi qj) (h:T_dyad_Mul qa l0_1 qc ql l1_1 qt=some (u0,u1,u2,u3)) (hK:∀ (a1:OA) (n1 c1:Nat) (w1:World),Ho w0 w1 ((sl a1 n1 c1 (List.map (Value.int .u64) u1) N.t_uint64)::L)→K (.tuple #[.agg #[.bool u0,.slice a1 n1 c1,.int .i64 u2],.int .i64 u3]) w1):CallsX P N.f_dyad_Mul #[.agg #[.bool qa,.slice qb qf qg,.int .i64 qc],.agg #[.bool ql,.slice qm qi qj,.int .i64 qt]] w K:=by
 refine H.dyad_Mul qa qb qf qg qc ql qm qi qj qt w _ ?_
 unfold S_dyad_Mul
 unfold T_dyad_Mul at h
 try dsimp only
 refine newM_s hS ?_;intro r1 w hS
 refine newM_s hS ?_;intro r2 w hS
 refine newM_s hS ?_;intro r3 w hS
 refine ⟨_,hS.cel mp2 rfl,_,_,_,hS.cel mp2 rfl,_,hS.cel mp2 rfl,_,hS.cel mp1 rfl,_,_,_,hS.cel mp1 rfl,_,hS.cel mp1 rfl,?_⟩
 obtain ⟨t1,ht1,h⟩:=bnd h
 refine wk_dyad_both H hS (qo.mono tl3) (qr.mono tl3) ht1 ?_;rintro w hS
 refine ⟨_,rfl,?_⟩
 refine cond_s h ?_ ?_<;>intro hc h
 ·
  refine stc_s hS rfl rfl ?_;intro w hS
  refine stc_s hS rfl rfl ?_;intro w hS
  refine stc_s hS rfl rfl ?_;intro w hS
  refine ⟨_,hS.cel mp0 rfl,_,_,_,hS.cel mp0 rfl,_,hS.cel mp0 rfl,?_⟩
  replace hS:=hS.none (α:=Int) (enc:=(Value.int .u64)) (t:=N.t_uint64)
  cases some_inj h
  exact hK _ _ _ _ (hS.pick (A:=[_,_,_,_]) [0] rfl)
 refine ⟨_,hS.cel mp2 rfl,_,_,_,hS.cel mp2 rfl,_,hS.cel mp2 rfl,?_⟩
 obtain ⟨t2,ht2,h⟩:=bnd h
 refine wk_dyad_whole H hS (qo.mono tl3) ht2 ?_;rintro r4 a4 m4 c4 w hS
 refine ⟨_,rfl,?_⟩
 refine ⟨_,hS.cel mp2 rfl,_,_,_,hS.cel mp2 rfl,_,hS.cel mp2 rfl,_,hS.cel mp3 rfl,_,hS.cel mp2 rfl,?_⟩
 refine drM_s hS ?_;intro w hS
 obtain ⟨t3,ht3,h⟩:=bnd h
 refine wk_dyad_whole H hS (qr.mono tl4) ht3 ?_;rintro r5 a5 m5 c5 w hS
 refine ⟨_,rfl,?_⟩
 refine ⟨(hS.cel mp3 rfl),?_⟩
 refine ⟨(hS.cel mp4 rfl),?_⟩
 refine drM_s hS ?_;intro w hS
 obtain ⟨t4,ht4,h⟩:=bnd h
 replace hS:=ro1 hS
 refine big_Mul_zzy H hS (Ent.bg mp0) ht4 ?_;intro a6 m6 c6 w hS
 refine ⟨_,rfl,?_⟩
 refine ⟨(hS.cel mp3 rfl),?_⟩
 refine ⟨(hS.cel mp4 rfl),?_⟩
 refine drM_s hS ?_;intro w hS
 obtain ⟨⟨t5,t6,t7,t8⟩,ho5,h⟩:=bnd h
 refine wk_dyad_made H hS (Ent.bg mp0) ho5 ?_;clear hS ho5;rintro a7 m7 c7 w hS
 refine ⟨_,_,_,_,_,_,rfl,?_⟩
 refine drM_s hS ?_;intro w hS
 replace hS:=ro3 hS
 refine stc_s hS rfl rfl ?_;intro w hS
 refine stc_s hS rfl rfl ?_;intro w hS
 refine stc_s hS rfl rfl ?_;intro w hS
 refine drM_s hS ?_;intro w hS
 refine ⟨_,hS.cel mp0 rfl,_,_,_,hS.cel mp0 rfl,_,hS.cel mp0 rfl,?_⟩
 cases some_inj h
 exact hK _ _ _ _ (hS.pick (A:=[_,_,_,_,_,_]) [1] rfl)
theorem wk_sums_DotExact_1 {q0 r_1 q1 qk qp vr r_2 q2 qx vo yh u0 u1 u2} (hS:Ho w0 w L) (eq1:Ent L (cl r_1 [.slice q1 qk qp] N.t_L_float64).A) (qy:EF L vr q1 qk qp) (eq2:Ent L (cl r_2 [.slice q2 qx vo] N.t_L_float64).A) (yl:EF L yh q2 qx vo) (hG:Ent L (tab64 N.g_1)) (h:T_sums_DotExact_1 q0 (List.map nf vr) (List.map nf yh)=some (u0,u1,u2)) (hK:∀ (a1:OA) (n1 c1:Nat) (w1:World),Ho w0 w1 ((sl a1 n1 c1 (List.map (Value.int .u64) u1) N.t_uint64)::L)→K (.agg #[.bool u0,.slice a1 n1 c1,.int .i64 u2]) w1):CallsX P N.f_sums_DotExact_1 #[.int .i64 q0,.pointer (some ⟨r_1,0,none⟩),.pointer (some ⟨r_2,0,none⟩)] w K:=by
 refine H.sums_DotExact_1 q0 (some ⟨r_1,0,none⟩) (some ⟨r_2,0,none⟩) w _ ?_
 unfold S_sums_DotExact_1
 unfold T_sums_DotExact_1 at h
 try dsimp only
 refine newM_s hS ?_;intro r1 w hS
 refine optM_s ?_
 refine ⟨_,_,_,(eq1.cel tl1 hS rfl),?_⟩
 obtain ⟨t1,ht1,h⟩:=bnd h
 obtain ⟨z2,rfl,q3x,vt,q3r⟩:=atF ht1
 refine idx_s ((qy.mono tl1).now (fun _ h=>h) hS) q3x vt q3r ?_;intro b4 hb4
 refine ⟨_,rd_get ((qy.mono tl1).now (fun _ h=>h) hS) hb4 q3x,?_⟩
 obtain ⟨⟨t2,t3,t4,t5⟩,ho2,h⟩:=bnd h
 refine wk_dyad_Of H hS (hG.mono tl1) ho2 ?_;clear hS ho2;rintro a5 m5 c5 w hS
 refine ⟨_,_,_,_,_,_,rfl,?_⟩
 refine newM_s hS ?_;intro r6 w hS
 refine stc_s hS rfl rfl ?_;intro w hS
 refine stc_s hS rfl rfl ?_;intro w hS
 refine stc_s hS rfl rfl ?_;intro w hS
 refine optM_s ?_
 refine ⟨_,_,_,(eq2.cel tl3 hS rfl),?_⟩
 obtain ⟨t6,ht6,h⟩:=bnd h
 obtain ⟨z7,rfl,q8x,yw,q8r⟩:=atF ht6
 refine idx_s ((yl.mono tl3).now (fun _ h=>h) hS) q8x yw q8r ?_;intro b9 hb9
 refine ⟨_,rd_get ((yl.mono tl3).now (fun _ h=>h) hS) hb9 q8x,?_⟩
 obtain ⟨⟨t7,t8,t9,t10⟩,ho7,h⟩:=bnd h
 refine wk_dyad_Of H hS (hG.mono tl3) ho7 ?_;clear hS ho7;rintro a10 m10 c10 w hS
 refine ⟨_,_,_,_,_,_,rfl,?_⟩
 refine newM_s hS ?_;intro r11 w hS
 refine stc_s hS rfl rfl ?_;intro w hS
 refine stc_s hS rfl rfl ?_;intro w hS
 refine stc_s hS rfl rfl ?_;intro w hS
 refine ⟨_,hS.cel mp2 rfl,_,_,_,hS.cel mp2 rfl,_,hS.cel mp2 rfl,_,hS.cel mp0 rfl,_,_,_,hS.cel mp0 rfl,_,hS.cel mp0 rfl,?_⟩
 obtain ⟨⟨t11,t12,t13,t14⟩,ho11,h⟩:=bnd h
 refine wk_dyad_Mul H hS (Ent.sl mp3) (Ent.sl mp1) ho11 ?_;clear hS ho11;rintro a12 m12 c12 w hS
 refine ⟨_,_,_,_,_,_,rfl,?_⟩
 refine newM_s hS ?_;intro r13 w hS
 refine stc_s hS rfl rfl ?_;intro w hS
 refine stc_s hS rfl rfl ?_;intro w hS
 refine stc_s hS rfl rfl ?_;intro w hS
 refine ⟨_,hS.cel mp0 rfl,_,_,_,hS.cel mp0 rfl,_,hS.cel mp0 rfl,?_⟩
 replace hS:=ro6 hS
 refine stc_s hS rfl rfl ?_;intro w hS
 refine stc_s hS rfl rfl ?_;intro w hS
 refine stc_s hS rfl rfl ?_;intro w hS
 refine ⟨_,hS.cel mp0 rfl,_,_,_,hS.cel mp0 rfl,_,hS.cel mp0 rfl,?_⟩
 cases some_inj h
 exact hK _ _ _ _ (hS.pick (A:=[_,_,_,_,_,_,_]) [2] rfl)
theorem wk_bn_NewInt {q0 u0} (hS:Ho w0 w L)  (h:T_bn_NewInt q0=some u0) (hK:∀ (r0:Nat) (a0:OA) (n0 c0:Nat) (w1:World),Ho w0 w1 ((bg N.t_bn_Int N.t_uint32 r0 a0 n0 c0 u0)::L)→K (.pointer (some ⟨r0,0,none⟩)) w1):CallsX P N.f_bn_NewInt #[.int .i64 q0] w K:=by
 refine H.bn_NewInt q0 w _ ?_
 unfold S_bn_NewInt
 unfold T_bn_NewInt at h
 try dsimp only
 refine newM_s hS ?_;intro r1 w hS;replace hS:=Ho.bgNew (E:=N.t_uint32) hS
 obtain ⟨t1,ht1,h⟩:=bnd h
 refine big_SetInt64_z H hS  ht1 ?_;intro a2 m2 c2 w hS
 refine ⟨_,rfl,?_⟩
 cases some_inj h
 exact hK _ _ _ _ _ hS
theorem wk_dyad_Int {q0 u0 u1 u2} (hS:Ho w0 w L)  (h:T_dyad_Int q0=some (u0,u1,u2)) (hK:∀ (a1:OA) (n1 c1:Nat) (w1:World),Ho w0 w1 ((sl a1 n1 c1 (List.map (Value.int .u64) u1) N.t_uint64)::L)→K (.agg #[.bool u0,.slice a1 n1 c1,.int .i64 u2]) w1):CallsX P N.f_dyad_Int #[.int .i64 q0] w K:=by
 refine H.dyad_Int q0 w _ ?_
 unfold S_dyad_Int
 unfold T_dyad_Int at h
 try dsimp only
 refine newM_s hS ?_;intro r1 w hS
 obtain ⟨t1,ht1,h⟩:=bnd h
 refine wk_bn_NewInt H hS  ht1 ?_;rintro r2 a2 m2 c2 w hS
 refine ⟨_,rfl,?_⟩
 obtain ⟨⟨t2,t3,t4,t5⟩,ho2,h⟩:=bnd h
 refine wk_dyad_made H hS (Ent.bg mp0) ho2 ?_;clear hS ho2;rintro a3 m3 c3 w hS
 refine ⟨_,_,_,_,_,_,rfl,?_⟩
 refine newM_s hS ?_;intro r4 w hS
 refine stc_s hS rfl rfl ?_;intro w hS
 refine stc_s hS rfl rfl ?_;intro w hS
 refine stc_s hS rfl rfl ?_;intro w hS
 refine ⟨_,hS.cel mp0 rfl,_,_,_,hS.cel mp0 rfl,_,hS.cel mp0 rfl,?_⟩
 replace hS:=ro3 hS
 refine stc_s hS rfl rfl ?_;intro w hS
 refine stc_s hS rfl rfl ?_;intro w hS
 refine stc_s hS rfl rfl ?_;intro w hS
 refine ⟨_,hS.cel mp0 rfl,_,_,_,hS.cel mp0 rfl,_,hS.cel mp0 rfl,?_⟩
 cases some_inj h
 exact hK _ _ _ _ (hS.pick (A:=[_,_,_,_]) [2] rfl)
theorem wk_dyad_Add {qa qb qf qg l0_1 qc ql qm qi qj l1_1 qt u0 u1 u2 u3} (hS:Ho w0 w L) (qo:EU L l0_1 qb qf qg) (qr:EU L l1_1 qm qi qj) (h:T_dyad_Add qa l0_1 qc ql l1_1 qt=some (u0,u1,u2,u3)) (hK:∀ (a1:OA) (n1 c1:Nat) (w1:World),Ho w0 w1 ((sl a1 n1 c1 (List.map (Value.int .u64) u1) N.t_uint64)::L)→K (.tuple #[.agg #[.bool u0,.slice a1 n1 c1,.int .i64 u2],.int .i64 u3]) w1):CallsX P N.f_dyad_Add #[.agg #[.bool qa,.slice qb qf qg,.int .i64 qc],.agg #[.bool ql,.slice qm qi qj,.int .i64 qt]] w K:=by
 refine H.dyad_Add qa qb qf qg qc ql qm qi qj qt w _ ?_
 unfold S_dyad_Add
 unfold T_dyad_Add at h
 try dsimp only
 refine newM_s hS ?_;intro r1 w hS
 refine newM_s hS ?_;intro r2 w hS
 refine newM_s hS ?_;intro r3 w hS
 refine ⟨_,hS.cel mp2 rfl,_,_,_,hS.cel mp2 rfl,_,hS.cel mp2 rfl,_,hS.cel mp1 rfl,_,_,_,hS.cel mp1 rfl,_,hS.cel mp1 rfl,?_⟩
 obtain ⟨t1,ht1,h⟩:=bnd h
 refine wk_dyad_both H hS (qo.mono tl3) (qr.mono tl3) ht1 ?_;rintro w hS
 refine ⟨_,rfl,?_⟩
 refine cond_s h ?_ ?_<;>intro hc h
 ·
  refine stc_s hS rfl rfl ?_;intro w hS
  refine stc_s hS rfl rfl ?_;intro w hS
  refine stc_s hS rfl rfl ?_;intro w hS
  refine ⟨_,hS.cel mp0 rfl,_,_,_,hS.cel mp0 rfl,_,hS.cel mp0 rfl,?_⟩
  replace hS:=hS.none (α:=Int) (enc:=(Value.int .u64)) (t:=N.t_uint64)
  cases some_inj h
  exact hK _ _ _ _ (hS.pick (A:=[_,_,_,_]) [0] rfl)
 refine ⟨_,hS.cel mp2 rfl,_,_,_,hS.cel mp2 rfl,_,hS.cel mp2 rfl,_,hS.cel mp1 rfl,_,_,_,hS.cel mp1 rfl,_,hS.cel mp1 rfl,?_⟩
 refine drM_s hS ?_;intro w hS
 obtain ⟨t2,ht2,h⟩:=bnd h
 refine wk_dyad_whole H hS (qo.mono tl3) ht2 ?_;rintro r4 a4 m4 c4 w hS
 refine ⟨_,rfl,?_⟩
 refine ⟨(hS.cel mp2 rfl),?_⟩
 refine ⟨(hS.cel mp2 rfl),?_⟩
 refine ⟨(hS.cel mp2 rfl),?_⟩
 refine drM_s hS ?_;intro w hS
 obtain ⟨t3,ht3,h⟩:=bnd h
 refine wk_dyad_whole H hS (qr.mono tl4) ht3 ?_;rintro r5 a5 m5 c5 w hS
 refine ⟨_,rfl,?_⟩
 refine drM_s hS ?_;intro w hS
 obtain ⟨o6,h6,c6⟩:=bnd h
 refine cutM_i (fun s w=>∃ (t4:Bool),t4=o6∧s=(t4,())∧Ho w0 w ((bg N.t_bn_Int N.t_uint32 r5 a5 m5 c5 t3)::(bg N.t_bn_Int N.t_uint32 r4 a4 m4 c4 t2)::(cl r3 [.bool false,.slice none 0 0,.int .i64 0] N.t_Dyad)::(cl r2 [.bool ql,.slice qm qi qj,.int .i64 qt] N.t_Dyad)::(cl r1 [.bool qa,.slice qb qf qg,.int .i64 qc] N.t_Dyad)::L)) (fun J6 hJ6=>?_) ?_
 ·
  have h:=h6
  clear h6
  obtain ⟨t5,ht5,h⟩:=bnd h
  refine big_Sign_x H hS (Ent.bg mp1) ht5 ?_;intro w hS
  refine ⟨_,rfl,?_⟩
  refine cond_s h ?_ ?_<;>intro hc h
  ·
   obtain ⟨t6,ht6,h⟩:=bnd h
   refine big_Sign_x H hS (Ent.bg mp0) ht6 ?_;intro w hS
   refine ⟨_,rfl,?_⟩
   exact hJ6 _ _ ⟨_,some_inj h,rfl,hS⟩
  exact hJ6 _ _ ⟨_,some_inj h,rfl,hS⟩
 clear h6 hS
 rintro s w ⟨t4,rfl,rfl,hS⟩
 have h:=c6
 clear c6
 try dsimp only
 refine cond_s h ?_ ?_<;>intro hc h
 ·
  refine ⟨_,hS.cel mp4 rfl,_,hS.cel mp3 rfl,?_⟩
  refine drM_s hS ?_;intro w hS
  obtain ⟨t7,ht7,h⟩:=bnd h
  replace hS:=ro1 hS
  refine big_Add_zzy H hS (Ent.bg mp0) ht7 ?_;intro a7 m7 c7 w hS
  refine ⟨_,rfl,?_⟩
  refine ⟨(hS.cel mp3 rfl),?_⟩
  refine ⟨(hS.cel mp4 rfl),?_⟩
  refine drM_s hS ?_;intro w hS
  obtain ⟨⟨t8,t9,t10,t11⟩,ho8,h⟩:=bnd h
  refine wk_dyad_made H hS (Ent.bg mp0) ho8 ?_;clear hS ho8;rintro a8 m8 c8 w hS
  refine ⟨_,_,_,_,_,_,rfl,?_⟩
  refine drM_s hS ?_;intro w hS
  replace hS:=ro3 hS
  refine stc_s hS rfl rfl ?_;intro w hS
  refine stc_s hS rfl rfl ?_;intro w hS
  refine stc_s hS rfl rfl ?_;intro w hS
  refine drM_s hS ?_;intro w hS
  refine ⟨_,hS.cel mp0 rfl,_,_,_,hS.cel mp0 rfl,_,hS.cel mp0 rfl,?_⟩
  cases some_inj h
  exact hK _ _ _ _ (hS.pick (A:=[_,_,_,_,_,_]) [1] rfl)
 refine ⟨_,hS.cel mp4 rfl,_,hS.cel mp3 rfl,?_⟩
 obtain ⟨o27,h27,c27⟩:=bnd h
 refine cutM_i (fun s w=>∃ (t12:Bool) (t13:Int) (t14:Bool) (t15:Int) (r9:Nat) (a10:OA) (m11:Nat) (c12:Nat) (t16:Int) (r13:Nat) (a14:OA) (m15:Nat) (c16:Nat) (t17:Int) (a17:OA) (m18:Nat) (c19:Nat) (t18:List Int) (it20:It) (a22:OA) (m23:Nat) (c24:Nat) (t19:List Int) (it25:It),(t12,t13,t14,t15,t16,t17,t18,t19)=o27∧s=((some ⟨r9,0,none⟩),(some ⟨r13,0,none⟩),())∧Ent (it20::L) (rdA (List.map (Value.int .u64) t18) a17 m18 c19)∧Ent (it25::L) (rdA (List.map (Value.int .u64) t19) a22 m23 c24)∧Ho w0 w ((cl r2 [.bool t12,.slice a17 m18 c19,.int .i64 t13] N.t_Dyad)::(cl r1 [.bool t14,.slice a22 m23 c24,.int .i64 t15] N.t_Dyad)::(cl r3 [.bool false,.slice none 0 0,.int .i64 0] N.t_Dyad)::(bg N.t_bn_Int N.t_uint32 r9 a10 m11 c12 t16)::(bg N.t_bn_Int N.t_uint32 r13 a14 m15 c16 t17)::it20::it25::L)) (fun J27 hJ27=>?_) ?_
 ·
  have h:=h27
  clear h27
  refine cond_s h ?_ ?_<;>intro hc h
  ·
   refine ⟨_,hS.cel mp3 rfl,_,_,_,hS.cel mp3 rfl,_,hS.cel mp3 rfl,_,hS.cel mp4 rfl,_,_,_,hS.cel mp4 rfl,_,hS.cel mp4 rfl,?_⟩
   replace hS:=ro4 hS
   refine stc_s hS rfl rfl ?_;intro w hS
   refine stc_s hS rfl rfl ?_;intro w hS
   refine stc_s hS rfl rfl ?_;intro w hS
   replace hS:=ro4 hS
   refine stc_s hS rfl rfl ?_;intro w hS
   refine stc_s hS rfl rfl ?_;intro w hS
   refine stc_s hS rfl rfl ?_;intro w hS
   replace hS:=hS.voidItem
   replace hS:=hS.voidItem
   obtain rfl:=some_inj h
   exact hJ27 _ _ ⟨_,_,_,_,_,_,_,_,_,_,_,_,_,_,_,_,_,_,_,_,_,_,_,_,rfl,rfl,(qo.mono tl1),(qr.mono tl1),(hS.pick (A:=[_,_,_,_,_,_,_]) [2,2,4,2,2,1,0] rfl)⟩
  replace hS:=hS.voidItem
  replace hS:=hS.voidItem
  obtain rfl:=some_inj h
  exact hJ27 _ _ ⟨_,_,_,_,_,_,_,_,_,_,_,_,_,_,_,_,_,_,_,_,_,_,_,_,rfl,rfl,(qr.mono tl1),(qo.mono tl1),(hS.pick (A:=[_,_,_,_,_,_,_]) [5,5,4,3,2,1,0] rfl)⟩
 clear h27 hS
 rintro s w ⟨t12,t13,t14,t15,r9,a10,m11,c12,t16,r13,a14,m15,c16,t17,a17,m18,c19,t18,it20,a22,m23,c24,t19,it25,rfl,rfl,e21,e26,hS⟩
 have h:=c27
 clear c27
 try dsimp only
 refine ⟨_,hS.cel mp1 rfl,_,hS.cel mp0 rfl,?_⟩
 refine cond_s h ?_ ?_<;>intro hc h
 ·
  replace hS:=ro2 hS
  refine stc_s hS rfl rfl ?_;intro w hS
  refine stc_s hS rfl rfl ?_;intro w hS
  refine stc_s hS rfl rfl ?_;intro w hS
  refine ⟨_,hS.cel mp0 rfl,_,_,_,hS.cel mp0 rfl,_,hS.cel mp0 rfl,?_⟩
  replace hS:=hS.none (α:=Int) (enc:=(Value.int .u64)) (t:=N.t_uint64)
  cases some_inj h
  exact hK _ _ _ _ (hS.pick (A:=[_,_,_,_,_,_,_,_]) [0] rfl)
 refine ⟨_,hS.cel mp0 rfl,?_⟩
 refine drM_s hS ?_;intro w hS
 obtain ⟨t20,ht20,h⟩:=bnd h
 replace hS:=ro3 hS
 refine big_Lsh_zz H hS  ht20 ?_;intro a28 m28 c28 w hS
 refine ⟨_,rfl,?_⟩
 refine ⟨(hS.cel mp1 rfl),?_⟩
 refine drM_s hS ?_;intro w hS
 obtain ⟨t21,ht21,h⟩:=bnd h
 refine big_Add_zzy H hS (Ent.bg mp3) ht21 ?_;intro a29 m29 c29 w hS
 refine ⟨_,rfl,?_⟩
 refine ⟨(hS.cel mp1 rfl),?_⟩
 refine drM_s hS ?_;intro w hS
 obtain ⟨⟨t22,t23,t24,t25⟩,ho22,h⟩:=bnd h
 refine wk_dyad_made H hS (Ent.bg mp0) ho22 ?_;clear hS ho22;rintro a30 m30 c30 w hS
 refine ⟨_,_,_,_,_,_,rfl,?_⟩
 refine drM_s hS ?_;intro w hS
 replace hS:=ro4 hS
 refine stc_s hS rfl rfl ?_;intro w hS
 refine stc_s hS rfl rfl ?_;intro w hS
 refine stc_s hS rfl rfl ?_;intro w hS
 refine drM_s hS ?_;intro w hS
 refine ⟨_,hS.cel mp0 rfl,_,_,_,hS.cel mp0 rfl,_,hS.cel mp0 rfl,?_⟩
 cases some_inj h
 exact hK _ _ _ _ (hS.pick (A:=[_,_,_,_,_,_,_,_]) [1] rfl)
theorem wk_sums_total {q0} {q1:Value} {f1:Int→Option (Bool×List Int×Int)} {u0 u1 u2} (hS:Ho w0 w L) (hf1:∀ (v0:Int) (w:World) (L1:List It) (r1:Bool) (r2:List Int) (r3:Int) (K:KV),(∀ e,e∈L→e∈L1)→f1 v0=some (r1,r2,r3)→Ho w0 w L1→(∀ (a1:OA) (n1 c1:Nat) (w1:World),Ho w0 w1 ((sl a1 n1 c1 (List.map (Value.int .u64) r2) N.t_uint64)::L1)→K (.agg #[.bool r1,.slice a1 n1 c1,.int .i64 r3]) w1)→fnM q1 fun g gp gq=>CallsX P g (gp.toList++(([.int .i64 v0]:List Value)++gq.toList)).toArray w K) (h:T_sums_total q0 f1=some (u0,u1,u2)) (hK:∀ (a1:OA) (n1 c1:Nat) (w1:World),Ho w0 w1 ((sl a1 n1 c1 (List.map (Value.int .u64) u1) N.t_uint64)::L)→K (.agg #[.bool u0,.slice a1 n1 c1,.int .i64 u2]) w1):CallsX P N.f_sums_total #[.int .i64 q0,q1] w K:=by
 refine H.sums_total q0 q1 w _ ?_
 unfold S_sums_total
 unfold T_sums_total at h
 try dsimp only
 refine newM_s hS ?_;intro r1 w hS
 obtain ⟨⟨t1,t2,t3⟩,ho1,h⟩:=bnd h
 refine wk_dyad_Int H hS  ho1 ?_;clear hS ho1;rintro a2 m2 c2 w hS
 refine ⟨_,_,_,_,_,rfl,?_⟩
 refine newM_s hS ?_;intro r3 w hS
 refine stc_s hS rfl rfl ?_;intro w hS
 refine stc_s hS rfl rfl ?_;intro w hS
 refine stc_s hS rfl rfl ?_;intro w hS
 obtain ⟨o7,h7,c7⟩:=bnd h
 refine cutM_i (fun s w=>∃ (t4:Bool) (t5:Int) (a4:OA) (m5:Nat) (c6:Nat) (t6:List Int),(t4,t5,t6)=o7∧s=(())∧Ho w0 w ((cl r3 [.bool t4,.slice a4 m5 c6,.int .i64 t5] N.t_Dyad)::(cl r1 [.bool false,.slice none 0 0,.int .i64 0] N.t_Dyad)::(sl a4 m5 c6 (List.map (Value.int .u64) t6) N.t_uint64)::L)) (fun J7 hJ7=>?_) ?_
 ·
  have h:=h7
  clear h7
  refine iter_sim (fun s w t=>∃ (t7:Int) (t8:Bool) (t9:Int) (a8:OA) (m9:Nat) (c10:Nat) (t10:List Int),(t7,t8,t9,t10)=t∧s=(t7,())∧Ho w0 w ((cl r3 [.bool t8,.slice a8 m9 c10,.int .i64 t9] N.t_Dyad)::(cl r1 [.bool false,.slice none 0 0,.int .i64 0] N.t_Dyad)::(sl a8 m9 c10 (List.map (Value.int .u64) t10) N.t_uint64)::L)) ?_ h ⟨_,_,_,_,_,_,_,rfl,rfl,(hS.pick (A:=[_,_,_]) [0,1,0] rfl)⟩
  clear h hS
  rintro s w t X q ⟨t7,t8,t9,a8,m9,c10,t10,rfl,rfl,hS⟩ h hX hO
  unfold T_sums_total_b2 at h
  try dsimp only
  refine cond_s h ?_ ?_<;>intro hc h
  ·
   refine ⟨_,hS.cel mp0 rfl,_,_,_,hS.cel mp0 rfl,_,hS.cel mp0 rfl,?_⟩
   refine drM_s hS ?_;intro w hS
   obtain ⟨⟨t11,t12,t13⟩,ho11,h⟩:=bnd h
   refine hf1 _ _ _ _ _ _ _ tl3 ho11 hS ?_;clear hS ho11;rintro a11 m11 c11 w hS
   refine ⟨_,_,_,_,_,rfl,?_⟩
   refine ⟨(hS.cel mp1 rfl),?_⟩
   refine ⟨(hS.cel mp1 rfl),?_⟩
   refine ⟨(hS.cel mp1 rfl),?_⟩
   refine drM_s hS ?_;intro w hS
   obtain ⟨⟨t14,t15,t16,t17⟩,ho14,h⟩:=bnd h
   refine wk_dyad_Add H hS (Ent.sl mp3) (Ent.sl mp0) ho14 ?_;clear hS ho14;rintro a12 m12 c12 w hS
   refine ⟨_,_,_,_,_,_,rfl,?_⟩
   refine drM_s hS ?_;intro w hS
   replace hS:=ro2 hS
   refine stc_s hS rfl rfl ?_;intro w hS
   refine stc_s hS rfl rfl ?_;intro w hS
   refine stc_s hS rfl rfl ?_;intro w hS
   refine drM_s hS ?_;intro w hS
   obtain rfl:=some_inj h
   exact hX _ rfl _ _ ⟨_,_,_,_,_,_,_,rfl,rfl,(hS.pick (A:=[_,_,_,_,_]) [0,2,0] rfl)⟩
  obtain rfl:=some_inj h
  have h:=congrArg some (hO _ rfl)
  exact hJ7 _ _ ⟨_,_,_,_,_,_,some_inj h,rfl,hS⟩
 clear h7 hS
 rintro s w ⟨t4,t5,a4,m5,c6,t6,rfl,rfl,hS⟩
 have h:=c7
 clear c7
 try dsimp only
 refine ⟨_,hS.cel mp0 rfl,_,_,_,hS.cel mp0 rfl,_,hS.cel mp0 rfl,?_⟩
 replace hS:=ro1 hS
 refine stc_s hS rfl rfl ?_;intro w hS
 refine stc_s hS rfl rfl ?_;intro w hS
 refine stc_s hS rfl rfl ?_;intro w hS
 refine ⟨_,hS.cel mp0 rfl,_,_,_,hS.cel mp0 rfl,_,hS.cel mp0 rfl,?_⟩
 cases some_inj h
 exact hK _ _ _ _ (hS.pick (A:=[_,_,_]) [2] rfl)
theorem wk_math_bits_Len64 {q0 u0} (hS:Ho w0 w L)  (hx:T_math_bits_Len64 q0=some u0) (hK:∀ w1,Ho w0 w1 L→K (.int .i64 u0) w1):CallsX P N.f_math_bits_Len64 #[.int .u64 q0] w K:=by
 unfold T_math_bits_Len64 at hx
 by_cases hd:0≤q0∧q0≤18446744073709551615
 ·
  rw [decide_eq_true hd] at hx
  have hx:=some_inj hx
  subst hx
  exact len64_c H hS hd.1 hd.2 hK
 rw [decide_eq_false hd] at hx;cases hx
theorem wk_dyad_top {qa qb qf qg l0_1 qc u0} (hS:Ho w0 w L) (qo:EU L l0_1 qb qf qg) (h:T_dyad_top qa l0_1 qc=some u0) (hK:∀ w1,Ho w0 w1 L→K (.int .i64 u0) w1):CallsX P N.f_dyad_top #[.agg #[.bool qa,.slice qb qf qg,.int .i64 qc]] w K:=by
 refine H.dyad_top qa qb qf qg qc w _ ?_
 unfold S_dyad_top
 unfold T_dyad_top at h
 try dsimp only
 refine newM_s hS ?_;intro r1 w hS
 refine ⟨_,_,_,hS.cel mp0 rfl,?_⟩
 obtain ⟨t1,ht1,h⟩:=bnd h
 obtain rfl:=lenE ht1 ((qo.mono tl1).now (fun _ h=>h) hS)
 refine ⟨_,hS.cel mp0 rfl,_,_,_,hS.cel mp0 rfl,?_⟩
 obtain ⟨t2,ht2,h⟩:=bnd h
 obtain ⟨q2x,qx,q2r⟩:=atE ht2
 refine idx_s ((qo.mono tl1).now (fun _ h=>h) hS) q2x qx q2r ?_;intro b3 hb3
 refine ⟨_,rd_get ((qo.mono tl1).now (fun _ h=>h) hS) hb3 q2x,?_⟩
 refine drM_s hS ?_;intro w hS
 obtain ⟨t3,ht3,h⟩:=bnd h
 refine wk_math_bits_Len64 H hS  ht3 ?_;rintro w hS
 refine ⟨_,rfl,?_⟩
 refine ⟨(hS.cel mp0 rfl),?_⟩
 refine drM_s hS ?_;intro w hS
 cases some_inj h
 exact hK _ (hS.pick (A:=[_]) [] rfl)
theorem wk_dyad_away {q0 q1 q2 q3 u0} (hS:Ho w0 w L)  (h:T_dyad_away q0 q1 q2 q3=some u0) (hK:∀ w1,Ho w0 w1 L→K (.bool u0) w1):CallsX P N.f_dyad_away #[.int .i8 q0,.bool q1,.int .i64 q2,.bool q3] w K:=by
 refine H.dyad_away q0 q1 q2 q3 w _ ?_
 unfold S_dyad_away
 unfold T_dyad_away at h
 try dsimp only
 refine cond_s h ?_ ?_<;>intro hc h
 ·
  cases some_inj h
  exact hK _ hS
 refine cond_s h ?_ ?_<;>intro hc h
 ·
  cases some_inj h
  exact hK _ hS
 refine cond_s h ?_ ?_<;>intro hc h
 ·
  cases some_inj h
  exact hK _ hS
 refine cond_s h ?_ ?_<;>intro hc h
 ·
  refine cond_s h ?_ ?_<;>intro hc h
  ·
   cases some_inj h
   exact hK _ hS
  cases some_inj h
  exact hK _ hS
 cases some_inj h
 exact hK _ hS
theorem wk_bits_Join {qa qb qc u0 u1} (hS:Ho w0 w L)  (h:T_bits_Join qa qb qc=some (u0,u1)) (hK:∀ (z0:Nat) (w1:World),nf z0=u0→Ho w0 w1 L→K (.tuple #[.float .f64 z0,.bool u1]) w1):CallsX P N.f_bits_Join #[.agg #[.bool qa,.int .u64 qb,.int .i64 qc]] w K:=by
 refine H.bits_Join qa qb qc w _ ?_
 unfold S_bits_Join
 unfold T_bits_Join at h
 try dsimp only
 refine newM_s hS ?_;intro r1 w hS
 refine ⟨_,hS.cel mp0 rfl,?_⟩
 obtain ⟨t1,ht1,h⟩:=bnd h
 refine wk_math_bits_Len64 H hS  ht1 ?_;rintro w hS
 refine ⟨_,rfl,?_⟩
 obtain ⟨o2,h2,c2⟩:=bnd h
 refine cutM_i (fun s w=>∃ (t2:Bool),t2=o2∧s=(t2,())∧Ho w0 w ((cl r1 [.bool qa,.int .u64 qb,.int .i64 qc] N.t_Parts)::L)) (fun J2 hJ2=>?_) ?_
 ·
  have h:=h2
  clear h2
  refine ⟨_,hS.cel mp0 rfl,?_⟩
  refine cond_s h ?_ ?_<;>intro hc h
  ·
   refine ⟨_,hS.cel mp0 rfl,?_⟩
   refine cond_s h ?_ ?_<;>intro hc h
   ·
    refine ⟨_,hS.cel mp0 rfl,?_⟩
    refine cond_s h ?_ ?_<;>intro hc h
    ·
     refine ⟨_,hS.cel mp0 rfl,?_⟩
     refine ⟨by decide,?_⟩
     exact hJ2 _ _ ⟨_,some_inj h,rfl,hS⟩
    exact hJ2 _ _ ⟨_,some_inj h,rfl,hS⟩
   exact hJ2 _ _ ⟨_,some_inj h,rfl,hS⟩
  refine ⟨_,hS.cel mp0 rfl,?_⟩
  refine cond_s h ?_ ?_<;>intro hc h
  ·
   refine ⟨_,hS.cel mp0 rfl,?_⟩
   refine ⟨by decide,?_⟩
   exact hJ2 _ _ ⟨_,some_inj h,rfl,hS⟩
  exact hJ2 _ _ ⟨_,some_inj h,rfl,hS⟩
 clear h2 hS
 rintro s w ⟨t2,rfl,rfl,hS⟩
 have h:=c2
 clear c2
 try dsimp only
 refine cond_s h ?_ ?_<;>intro hc h
 ·
  cases some_inj h
  exact hK _ _ rfl (hS.pick (A:=[_]) [] rfl)
 obtain ⟨o3,h3,c3⟩:=bnd h
 refine cutM_i (fun s w=>∃ (t3:Bool),t3=o3∧s=(t3,())∧Ho w0 w ((cl r1 [.bool qa,.int .u64 qb,.int .i64 qc] N.t_Parts)::L)) (fun J3 hJ3=>?_) ?_
 ·
  have h:=h3
  clear h3
  refine cond_s h ?_ ?_<;>intro hc h
  ·
   refine ⟨_,hS.cel mp0 rfl,?_⟩
   refine cond_s h ?_ ?_<;>intro hc h
   ·
    refine ⟨_,hS.cel mp0 rfl,?_⟩
    refine cond_s h ?_ ?_<;>intro hc h
    ·
     refine ⟨_,hS.cel mp0 rfl,?_⟩
     refine cond_s h ?_ ?_<;>intro hc h
     ·
      refine ⟨_,hS.cel mp0 rfl,?_⟩
      exact hJ3 _ _ ⟨_,some_inj h,rfl,hS⟩
     exact hJ3 _ _ ⟨_,some_inj h,rfl,hS⟩
    exact hJ3 _ _ ⟨_,some_inj h,rfl,hS⟩
   exact hJ3 _ _ ⟨_,some_inj h,rfl,hS⟩
  exact hJ3 _ _ ⟨_,some_inj h,rfl,hS⟩
 clear h3 hS
 rintro s w ⟨t3,rfl,rfl,hS⟩
 have h:=c3
 clear c3
 try dsimp only
 refine cond_s h ?_ ?_<;>intro hc h
 ·
  cases some_inj h
  exact hK _ _ rfl (hS.pick (A:=[_]) [] rfl)
 refine ⟨_,hS.cel mp0 rfl,_,hS.cel mp0 rfl,?_⟩
 obtain ⟨t4,ht4,h⟩:=bnd h
 refine wk_math_Ldexp H hS  ht4 ?_;rintro z4 w rfl hS
 refine ⟨_,rfl,?_⟩
 refine ⟨_,hS.cel mp0 rfl,?_⟩
 obtain ⟨o6,h6,c6⟩:=bnd h
 refine cutM_i (fun s w=>∃ (z5:Nat),(nf z5)=o6∧s=(z5,())∧Ho w0 w L) (fun J6 hJ6=>?_) ?_
 ·
  have h:=h6
  clear h6
  refine cond_s h ?_ ?_<;>intro hc h
  ·
   obtain ⟨t6,ht6,h⟩:=bnd h
   refine wk_math_Copysign H hS  ht6 ?_;rintro z7 w rfl hS
   refine ⟨_,rfl,?_⟩
   obtain rfl:=some_inj h
   exact hJ6 _ _ ⟨_,rfl,rfl,(hS.pick (A:=[_]) [] rfl)⟩
  obtain rfl:=some_inj h
  exact hJ6 _ _ ⟨_,rfl,rfl,(hS.pick (A:=[_]) [] rfl)⟩
 clear h6 hS
 rintro s w ⟨z5,rfl,rfl,hS⟩
 have h:=c6
 clear c6
 try dsimp only
 cases some_inj h
 exact hK _ _ rfl hS
theorem wk_bits_Place {q0 u0 u1} (hS:Ho w0 w L)  (h:T_bits_Place (nf q0)=some (u0,u1)) (hK:∀ w1,Ho w0 w1 L→K (.tuple #[.int .i64 u0,.bool u1]) w1):CallsX P N.f_bits_Place #[.float .f64 q0] w K:=by
 refine H.bits_Place q0 w _ ?_
 unfold S_bits_Place
 unfold T_bits_Place at h
 try dsimp only
 obtain ⟨t1,ht1,h⟩:=bnd h
 obtain rfl:=fne_s ht1
 refine cond_s h ?_ ?_<;>intro hc h
 ·
  cases some_inj h
  exact hK _ hS
 obtain ⟨t2,ht2,h⟩:=bnd h
 refine wk_math_Abs H hS  ht2 ?_;rintro z1 w rfl hS
 refine ⟨_,rfl,?_⟩
 obtain ⟨t3,ht3,h⟩:=bnd h
 refine wk_math_Float64bits H hS  ht3 ?_;rintro w hS
 refine ⟨_,rfl,?_⟩
 obtain ⟨t4,ht4,h⟩:=bnd h
 obtain rfl:=flt_s ht4
 obtain ⟨o2,h2,c2⟩:=bnd h
 refine cutM_i (fun s w=>∃ (t5:Int),t5=o2∧s=(t5,())∧Ho w0 w L) (fun J2 hJ2=>?_) ?_
 ·
  have h:=h2
  clear h2
  refine cond_s h ?_ ?_<;>intro hc h
  ·
   exact hJ2 _ _ ⟨_,some_inj h,rfl,hS⟩
  exact hJ2 _ _ ⟨_,some_inj h,rfl,hS⟩
 clear h2 hS
 rintro s w ⟨t5,rfl,rfl,hS⟩
 have h:=c2
 clear c2
 try dsimp only
 cases some_inj h
 exact hK _ hS
theorem wk_bits_At {q0 u0 u1} (hS:Ho w0 w L)  (h:T_bits_At q0=some (u0,u1)) (hK:∀ (z0:Nat) (w1:World),nf z0=u0→Ho w0 w1 L→K (.tuple #[.float .f64 z0,.bool u1]) w1):CallsX P N.f_bits_At #[.int .i64 q0] w K:=by
 refine H.bits_At q0 w _ ?_
 unfold S_bits_At
 unfold T_bits_At at h
 try dsimp only
 refine cond_s h ?_ ?_<;>intro hc h
 ·
  refine cond_s h ?_ ?_<;>intro hc h
  ·
   cases some_inj h
   exact hK _ _ rfl hS
  refine cond_s h ?_ ?_<;>intro hc h
  ·
   obtain ⟨t1,ht1,h⟩:=bnd h
   refine wk_math_Float64frombits H hS  ht1 ?_;rintro z1 w rfl hS
   refine ⟨_,rfl,?_⟩
   obtain ⟨t2,ht2,h⟩:=bnd h
   obtain rfl:=fneg_s ht2
   cases some_inj h
   exact hK _ _ rfl hS
  obtain ⟨t3,ht3,h⟩:=bnd h
  refine wk_math_Float64frombits H hS  ht3 ?_;rintro z2 w rfl hS
  refine ⟨_,rfl,?_⟩
  cases some_inj h
  exact hK _ _ rfl hS
 cases some_inj h
 exact hK _ _ rfl hS
theorem wk_bits_Next {q0 q1 u0} (hS:Ho w0 w L)  (h:T_bits_Next (nf q0) q1=some u0) (hK:∀ (z0:Nat) (w1:World),nf z0=u0→Ho w0 w1 L→K (.float .f64 z0) w1):CallsX P N.f_bits_Next #[.float .f64 q0,.bool q1] w K:=by
 refine H.bits_Next q0 q1 w _ ?_
 unfold S_bits_Next
 unfold T_bits_Next at h
 try dsimp only
 obtain ⟨⟨t1,t2⟩,ho1,h⟩:=bnd h
 refine wk_bits_Place H hS  ho1 ?_;clear hS ho1;rintro w hS
 refine ⟨_,_,rfl,?_⟩
 refine cond_s h ?_ ?_<;>intro hc h
 ·
  cases some_inj h
  exact hK _ _ rfl hS
 obtain ⟨o1,h1,c1⟩:=bnd h
 refine cutM_i (fun s w=>∃ (t3:Int),t3=o1∧s=(t3,())∧Ho w0 w L) (fun J1 hJ1=>?_) ?_
 ·
  have h:=h1
  clear h1
  refine cond_s h ?_ ?_<;>intro hc h
  ·
   exact hJ1 _ _ ⟨_,some_inj h,rfl,hS⟩
  exact hJ1 _ _ ⟨_,some_inj h,rfl,hS⟩
 clear h1 hS
 rintro s w ⟨t3,rfl,rfl,hS⟩
 have h:=c1
 clear c1
 try dsimp only
 obtain ⟨⟨t4,t5⟩,ho4,h⟩:=bnd h
 refine wk_bits_At H hS  ho4 ?_;clear hS ho4;rintro z2 w rfl hS
 refine ⟨_,_,rfl,?_⟩
 cases some_inj h
 exact hK _ _ rfl hS
theorem wk_dyad_float {q0 q1 q2 q3 u0} (hS:Ho w0 w L) (hG:Ent L (tab64 N.g_1)) (h:T_dyad_float q0 q1 q2 q3=some u0) (hK:∀ (z0:Nat) (w1:World),nf z0=u0→Ho w0 w1 L→K (.float .f64 z0) w1):CallsX P N.f_dyad_float #[.bool q0,.int .u64 q1,.int .i64 q2,.int .i8 q3] w K:=by
 refine H.dyad_float q0 q1 q2 q3 w _ ?_
 unfold S_dyad_float
 unfold T_dyad_float at h
 try dsimp only
 refine newM_s hS ?_;intro r1 w hS
 refine stc_s hS rfl rfl ?_;intro w hS
 refine stc_s hS rfl rfl ?_;intro w hS
 refine stc_s hS rfl rfl ?_;intro w hS
 obtain ⟨o2,h2,c2⟩:=bnd h
 refine cutM_i (fun s w=>∃ (t1:Int) (t2:Int),(t1,t2)=o2∧s=(())∧Ho w0 w ((cl r1 [.bool q0,.int .u64 t1,.int .i64 t2] N.t_Parts)::L)) (fun J2 hJ2=>?_) ?_
 ·
  have h:=h2
  clear h2
  refine cond_s h ?_ ?_<;>intro hc h
  ·
   obtain ⟨t3,ht3,h⟩:=bnd h
   refine wk_math_bits_TrailingZeros64 H hS (hG.mono tl1) ht3 ?_;rintro w hS
   refine ⟨_,rfl,?_⟩
   obtain ⟨t4,ht4,h⟩:=bnd h
   refine ⟨nn_s ht4,?_⟩
   refine stc_s hS rfl rfl ?_;intro w hS
   refine stc_s hS rfl rfl ?_;intro w hS
   exact hJ2 _ _ ⟨_,_,some_inj h,rfl,hS⟩
  exact hJ2 _ _ ⟨_,_,some_inj h,rfl,hS⟩
 clear h2 hS
 rintro s w ⟨t1,t2,rfl,rfl,hS⟩
 have h:=c2
 clear c2
 try dsimp only
 refine ⟨_,hS.cel mp0 rfl,_,hS.cel mp0 rfl,?_⟩
 refine drM_s hS ?_;intro w hS
 obtain ⟨t5,ht5,h⟩:=bnd h
 refine wk_math_bits_Len64 H hS  ht5 ?_;rintro w hS
 refine ⟨_,rfl,?_⟩
 refine ⟨(hS.cel mp0 rfl),?_⟩
 refine drM_s hS ?_;intro w hS
 refine cond_s h ?_ ?_<;>intro hc h
 ·
  refine stc_s hS rfl rfl ?_;intro w hS
  refine stc_s hS rfl rfl ?_;intro w hS
  refine ⟨_,hS.cel mp0 rfl,_,hS.cel mp0 rfl,_,hS.cel mp0 rfl,?_⟩
  obtain ⟨⟨t6,t7⟩,ho6,h⟩:=bnd h
  refine wk_bits_Join H hS  ho6 ?_;clear hS ho6;rintro z3 w rfl hS
  refine ⟨_,_,rfl,?_⟩
  refine cond_s h ?_ ?_<;>intro hc h
  ·
   refine cond_s h ?_ ?_<;>intro hc h
   ·
    refine cond_s h ?_ ?_<;>intro hc h
    ·
     refine cond_s h ?_ ?_<;>intro hc h
     ·
      refine cond_s h ?_ ?_<;>intro hc h
      ·
       cases some_inj h
       exact hK _ _ rfl (hS.pick (A:=[_]) [] rfl)
      obtain ⟨t8,ht8,h⟩:=bnd h
      refine wk_bits_Next H hS  ht8 ?_;rintro z4 w rfl hS
      refine ⟨_,rfl,?_⟩
      cases some_inj h
      exact hK _ _ rfl (hS.pick (A:=[_]) [] rfl)
     obtain ⟨t9,ht9,h⟩:=bnd h
     refine wk_bits_Next H hS  ht9 ?_;rintro z5 w rfl hS
     refine ⟨_,rfl,?_⟩
     cases some_inj h
     exact hK _ _ rfl (hS.pick (A:=[_]) [] rfl)
    cases some_inj h
    exact hK _ _ rfl (hS.pick (A:=[_]) [] rfl)
   refine cond_s h ?_ ?_<;>intro hc h
   ·
    refine cond_s h ?_ ?_<;>intro hc h
    ·
     cases some_inj h
     exact hK _ _ rfl (hS.pick (A:=[_]) [] rfl)
    obtain ⟨t10,ht10,h⟩:=bnd h
    refine wk_bits_Next H hS  ht10 ?_;rintro z6 w rfl hS
    refine ⟨_,rfl,?_⟩
    cases some_inj h
    exact hK _ _ rfl (hS.pick (A:=[_]) [] rfl)
   obtain ⟨t11,ht11,h⟩:=bnd h
   refine wk_bits_Next H hS  ht11 ?_;rintro z7 w rfl hS
   refine ⟨_,rfl,?_⟩
   cases some_inj h
   exact hK _ _ rfl (hS.pick (A:=[_]) [] rfl)
  cases some_inj h
  exact hK _ _ rfl (hS.pick (A:=[_]) [] rfl)
 refine ⟨_,hS.cel mp0 rfl,_,hS.cel mp0 rfl,_,hS.cel mp0 rfl,?_⟩
 obtain ⟨⟨t12,t13⟩,ho12,h⟩:=bnd h
 refine wk_bits_Join H hS  ho12 ?_;clear hS ho12;rintro z8 w rfl hS
 refine ⟨_,_,rfl,?_⟩
 cases some_inj h
 exact hK _ _ rfl (hS.pick (A:=[_]) [] rfl)
theorem wk_dyad_Round {qa qb qf qg l0_1 qc q1 u0 u1} (hS:Ho w0 w L) (qo:EU L l0_1 qb qf qg) (hG:Ent L (tab64 N.g_1)) (h:T_dyad_Round qa l0_1 qc q1=some (u0,u1)) (hK:∀ (z0:Nat) (w1:World),nf z0=u0→Ho w0 w1 L→K (.tuple #[.float .f64 z0,.int .i64 u1]) w1):CallsX P N.f_dyad_Round #[.agg #[.bool qa,.slice qb qf qg,.int .i64 qc],.int .i8 q1] w K:=by
 refine H.dyad_Round qa qb qf qg qc q1 w _ ?_
 unfold S_dyad_Round
 unfold T_dyad_Round at h
 try dsimp only
 refine newM_s hS ?_;intro r1 w hS
 refine ⟨_,hS.cel mp0 rfl,_,_,_,hS.cel mp0 rfl,_,hS.cel mp0 rfl,?_⟩
 obtain ⟨t1,ht1,h⟩:=bnd h
 refine wk_dyad_Right H hS (qo.mono tl1) ht1 ?_;rintro w hS
 refine ⟨_,rfl,?_⟩
 refine cond_s h ?_ ?_<;>intro hc h
 ·
  cases some_inj h
  exact hK _ _ rfl (hS.pick (A:=[_]) [] rfl)
 refine ⟨_,_,_,hS.cel mp0 rfl,?_⟩
 obtain ⟨t2,ht2,h⟩:=bnd h
 obtain rfl:=lenE ht2 ((qo.mono tl1).now (fun _ h=>h) hS)
 refine cond_s h ?_ ?_<;>intro hc h
 ·
  cases some_inj h
  exact hK _ _ rfl (hS.pick (A:=[_]) [] rfl)
 refine ⟨_,hS.cel mp0 rfl,_,_,_,hS.cel mp0 rfl,_,hS.cel mp0 rfl,?_⟩
 obtain ⟨t3,ht3,h⟩:=bnd h
 refine wk_dyad_whole H hS (qo.mono tl1) ht3 ?_;rintro r2 a2 m2 c2 w hS
 refine ⟨_,rfl,?_⟩
 obtain ⟨t4,ht4,h⟩:=bnd h
 refine big_Abs_zz H hS  ht4 ?_;intro a3 m3 c3 w hS
 refine ⟨_,rfl,?_⟩
 refine ⟨_,hS.cel mp1 rfl,_,_,_,hS.cel mp1 rfl,_,hS.cel mp1 rfl,?_⟩
 obtain ⟨t5,ht5,h⟩:=bnd h
 refine wk_dyad_top H hS (qo.mono tl2) ht5 ?_;rintro w hS
 refine ⟨_,rfl,?_⟩
 refine ⟨_,hS.cel mp1 rfl,?_⟩
 obtain ⟨o4,h4,c4⟩:=bnd h
 refine cutM_i (fun s w=>∃ (t6:Int),t6=o4∧s=(t6,())∧Ho w0 w ((cl r1 [.bool qa,.slice qb qf qg,.int .i64 qc] N.t_Dyad)::L)) (fun J4 hJ4=>?_) ?_
 ·
  have h:=h4
  clear h4
  refine cond_s h ?_ ?_<;>intro hc h
  ·
   refine newM_s hS ?_;intro r5 w hS;replace hS:=Ho.bgNew (E:=N.t_uint32) hS
   obtain ⟨t7,ht7,h⟩:=bnd h
   refine big_Lsh_zx H hS (Ent.bg mp0) ht7 ?_;intro a6 m6 c6 w hS
   refine ⟨_,rfl,?_⟩
   obtain ⟨t8,ht8,h⟩:=bnd h
   refine big_Uint64_x H hS (Ent.bg mp0) ht8 ?_;intro w hS
   refine ⟨_,rfl,?_⟩
   obtain rfl:=some_inj h
   exact hJ4 _ _ ⟨_,rfl,rfl,(hS.pick (A:=[_,_,_]) [2] rfl)⟩
  refine newM_s hS ?_;intro r7 w hS;replace hS:=Ho.bgNew (E:=N.t_uint32) hS
  obtain ⟨t9,ht9,h⟩:=bnd h
  refine big_Rsh_zx H hS (Ent.bg mp0) ht9 ?_;intro a8 m8 c8 w hS
  refine ⟨_,rfl,?_⟩
  obtain ⟨t10,ht10,h⟩:=bnd h
  refine big_Uint64_x H hS (Ent.bg mp0) ht10 ?_;intro w hS
  refine ⟨_,rfl,?_⟩
  obtain ⟨t11,ht11,h⟩:=bnd h
  refine big_Lsh_zz H hS  ht11 ?_;intro a9 m9 c9 w hS
  refine ⟨_,rfl,?_⟩
  obtain ⟨t12,ht12,h⟩:=bnd h
  replace hS:=ro1 hS
  refine big_Sub_zzy H hS (Ent.bg mp0) ht12 ?_;intro a10 m10 c10 w hS
  refine ⟨_,rfl,?_⟩
  refine newM_s hS ?_;intro r11 w hS;replace hS:=Ho.bgNew (E:=N.t_uint32) hS
  obtain ⟨t13,ht13,h⟩:=bnd h
  refine wk_bn_NewInt H hS  ht13 ?_;rintro r12 a12 m12 c12 w hS
  refine ⟨_,rfl,?_⟩
  obtain ⟨t14,ht14,h⟩:=bnd h
  replace hS:=ro1 hS
  refine big_Lsh_zx H hS (Ent.bg mp0) ht14 ?_;intro a13 m13 c13 w hS
  refine ⟨_,rfl,?_⟩
  obtain ⟨t15,ht15,h⟩:=bnd h
  refine big_Cmp_xy H hS (Ent.bg mp2) (Ent.bg mp0) ht15 ?_;intro w hS
  refine ⟨_,rfl,?_⟩
  obtain ⟨t16,ht16,h⟩:=bnd h
  refine big_Sign_x H hS (Ent.bg mp2) ht16 ?_;intro w hS
  refine ⟨_,rfl,?_⟩
  refine cond_s h ?_ ?_<;>intro hc h
  ·
   refine ⟨_,hS.cel mp4 rfl,?_⟩
   obtain ⟨t17,ht17,h⟩:=bnd h
   refine wk_dyad_away H hS  ht17 ?_;rintro w hS
   refine ⟨_,rfl,?_⟩
   obtain ⟨o14,h14,c14⟩:=bnd h
   refine cutM_i (fun s w=>∃ (t18:Int),t18=o14∧s=(t18,())∧Ho w0 w ((cl r1 [.bool qa,.slice qb qf qg,.int .i64 qc] N.t_Dyad)::L)) (fun J14 hJ14=>?_) ?_
   ·
    have h:=h14
    clear h14
    refine cond_s h ?_ ?_<;>intro hc h
    ·
     obtain rfl:=some_inj h
     exact hJ14 _ _ ⟨_,rfl,rfl,(hS.pick (A:=[_,_,_,_,_]) [4] rfl)⟩
    obtain rfl:=some_inj h
    exact hJ14 _ _ ⟨_,rfl,rfl,(hS.pick (A:=[_,_,_,_,_]) [4] rfl)⟩
   clear h14 hS
   rintro s w ⟨t18,rfl,rfl,hS⟩
   have h:=c14
   clear c14
   try dsimp only
   exact hJ4 _ _ ⟨_,some_inj h,rfl,hS⟩
  obtain ⟨o15,h15,c15⟩:=bnd h
  refine cutM_i (fun s w=>∃ (t19:Int),t19=o15∧s=(t19,())∧Ho w0 w ((cl r1 [.bool qa,.slice qb qf qg,.int .i64 qc] N.t_Dyad)::L)) (fun J15 hJ15=>?_) ?_
  ·
   have h:=h15
   clear h15
   obtain rfl:=some_inj h
   exact hJ15 _ _ ⟨_,rfl,rfl,(hS.pick (A:=[_,_,_,_,_]) [4] rfl)⟩
  clear h15 hS
  rintro s w ⟨t19,rfl,rfl,hS⟩
  have h:=c15
  clear c15
  try dsimp only
  exact hJ4 _ _ ⟨_,some_inj h,rfl,hS⟩
 clear h4 hS
 rintro s w ⟨t6,rfl,rfl,hS⟩
 have h:=c4
 clear c4
 try dsimp only
 refine ⟨_,hS.cel mp0 rfl,?_⟩
 obtain ⟨t20,ht20,h⟩:=bnd h
 refine wk_dyad_float H hS (hG.mono tl1) ht20 ?_;rintro z16 w rfl hS
 refine ⟨_,rfl,?_⟩
 cases some_inj h
 exact hK _ _ rfl (hS.pick (A:=[_]) [] rfl)
theorem wk_sums_DotExact {q0 qh qn vu q1 qk qp vr q2 u0 u1} (hS:Ho w0 w L) (qu:EF L vu q0 qh qn) (qy:EF L vr q1 qk qp) (hG:Ent L (tab64 N.g_1)) (hx:T_sums_DotExact (List.map nf vu) (List.map nf vr) q2=some (u0,u1)) (hK:∀ (z0:Nat) (w1:World),nf z0=u0→Ho w0 w1 L→K (.tuple #[.float .f64 z0,.int .i64 u1]) w1):CallsX P N.f_sums_DotExact #[.slice q0 qh qn,.slice q1 qk qp,.int .i8 q2] w K:=by
 refine H.sums_DotExact q0 qh qn q1 qk qp q2 w _ ?_
 unfold S_sums_DotExact
 unfold T_sums_DotExact at hx
 have h:=hx
 clear hx
 try dsimp only
 refine newM_s hS ?_;intro r1 w hS
 refine newM_s hS ?_;intro r2 w hS
 refine ⟨_,_,_,hS.cel mp1 rfl,?_⟩
 obtain ⟨t1,ht1,h⟩:=bnd h
 obtain rfl:=lenF ht1 ((qu.mono tl2).now (fun _ h=>h) hS)
 refine ⟨_,_,_,hS.cel mp0 rfl,?_⟩
 obtain ⟨t2,ht2,h⟩:=bnd h
 obtain rfl:=lenF ht2 ((qy.mono tl2).now (fun _ h=>h) hS)
 refine cond_s h ?_ ?_<;>intro hc h
 ·
  cases some_inj h
  exact hK _ _ rfl (hS.pick (A:=[_,_]) [] rfl)
 refine ⟨_,_,_,hS.cel mp1 rfl,?_⟩
 obtain ⟨t3,ht3,h⟩:=bnd h
 refine wk_sums_finite H hS (qu.mono tl2) ht3 ?_;rintro w hS
 refine ⟨_,rfl,?_⟩
 refine cond_s h ?_ ?_<;>intro hc h
 ·
  refine ⟨_,_,_,hS.cel mp0 rfl,?_⟩
  obtain ⟨t4,ht4,h⟩:=bnd h
  refine wk_sums_finite H hS (qy.mono tl2) ht4 ?_;rintro w hS
  refine ⟨_,rfl,?_⟩
  refine cond_s h ?_ ?_<;>intro hc h
  ·
   cases some_inj h
   exact hK _ _ rfl (hS.pick (A:=[_,_]) [] rfl)
  refine ⟨_,_,_,hS.cel mp1 rfl,?_⟩
  obtain ⟨t5,ht5,h⟩:=bnd h
  obtain rfl:=lenF ht5 ((qu.mono tl2).now (fun _ h=>h) hS)
  obtain ⟨⟨t6,t7,t8⟩,ho6,h⟩:=bnd h
  refine wk_sums_total H hS (by intro v0 w L1 r1 r2 r3 K hL hx hS hK;exact wk_sums_DotExact_1 H hS ((Ent.of mp1).mono hL) ((qu.mono tl2).mono hL) ((Ent.of mp0).mono hL) ((qy.mono tl2).mono hL) ((hG.mono tl2).mono hL) hx hK) ho6 ?_;clear hS ho6;rintro a3 m3 c3 w hS
  refine ⟨_,_,_,_,_,rfl,?_⟩
  refine newM_s hS ?_;intro r4 w hS
  refine stc_s hS rfl rfl ?_;intro w hS
  refine stc_s hS rfl rfl ?_;intro w hS
  refine stc_s hS rfl rfl ?_;intro w hS
  refine ⟨_,hS.cel mp0 rfl,_,_,_,hS.cel mp0 rfl,_,hS.cel mp0 rfl,?_⟩
  obtain ⟨⟨t9,t10⟩,ho9,h⟩:=bnd h
  refine wk_dyad_Round H hS (Ent.sl mp1) (hG.mono tl4) ho9 ?_;clear hS ho9;rintro z5 w rfl hS
  refine ⟨_,_,rfl,?_⟩
  cases some_inj h
  exact hK _ _ rfl (hS.pick (A:=[_,_,_,_]) [] rfl)
 cases some_inj h
 exact hK _ _ rfl (hS.pick (A:=[_,_]) [] rfl)
theorem wk_refine_Left {qa qb qc qd qe qs q1 qk qp vr q2 qx vo yh u0 u1} (hS:Ho w0 w L) (qq:EF L qs qc qd qe) (qy:EF L vr q1 qk qp) (yl:EF L yh q2 qx vo) (hG:Ent L (tab64 N.g_1)) (h:T_refine_Left qa qb (List.map nf qs) (List.map nf vr) (List.map nf yh)=some (u0,u1)) (hK:∀ (a0:OA) (n0 c0:Nat) (rws0:List Nat) (w1:World),List.map nf rws0=u0→Ho w0 w1 ((sl a0 n0 c0 (List.map (Value.float .f64) rws0) N.t_float64)::L)→K (.tuple #[.slice a0 n0 c0,.int .i64 u1]) w1):CallsX P N.f_refine_Left #[.agg #[.int .i64 qa,.int .i64 qb,.slice qc qd qe],.slice q1 qk qp,.slice q2 qx vo] w K:=by
 refine H.refine_Left qa qb qc qd qe q1 qk qp q2 qx vo w _ ?_
 unfold S_refine_Left
 unfold T_refine_Left at h
 try dsimp only
 refine newM_s hS ?_;intro r1 w hS
 refine ⟨_,hS.cel mp0 rfl,_,hS.cel mp0 rfl,_,_,_,hS.cel mp0 rfl,?_⟩
 obtain ⟨t1,ht1,h⟩:=bnd h
 refine wk_refine_fit H hS (qq.mono tl1) (qy.mono tl1) (yl.mono tl1) ht1 ?_;rintro w hS
 refine ⟨_,rfl,?_⟩
 refine cond_s h ?_ ?_<;>intro hc h
 ·
  replace hS:=hS.none (α:=Nat) (enc:=(Value.float .f64)) (t:=N.t_float64)
  cases some_inj h
  exact hK _ _ _ _ _ rfl (hS.pick (A:=[_,_]) [0] rfl)
 refine ⟨_,_,_,hS.cel mp0 rfl,?_⟩
 obtain ⟨t2,ht2,h⟩:=bnd h
 obtain rfl:(List.map (List.map nf) ([qs,vr,yh]:List (List Nat)))=t2:=some_inj ht2
 refine lit_s (ks:=([(qc,qd,qe),(q1,qk,qp),(q2,qx,vo)]:List Hd)) (enc:=hdV) (m:=3) hS rfl rfl ?_;intro r2 w hS
 obtain ⟨t3,ht3,h⟩:=bnd h
 refine wk_refine_finite H hS (Ent.sl mp0) (.cons (qq.mono tl2) (.cons (qy.mono tl2) (.cons (yl.mono tl2) .nil))) ht3 ?_;rintro w hS
 refine ⟨_,rfl,?_⟩
 refine cond_s h ?_ ?_<;>intro hc h
 ·
  replace hS:=hS.none (α:=Nat) (enc:=(Value.float .f64)) (t:=N.t_float64)
  cases some_inj h
  exact hK _ _ _ _ _ rfl (hS.pick (A:=[_,_,_]) [0] rfl)
 obtain ⟨t4,ht4,h⟩:=bnd h
 obtain rfl:(List.map nf ([4607182418800017408]:List Nat))=t4:=some_inj ht4
 refine lit_s (ks:=[4607182418800017408]) (enc:=(Value.float .f64)) (m:=1) hS rfl rfl ?_;intro r3 w hS
 obtain ⟨t5,ht5,h⟩:=bnd h
 obtain ⟨rfl,kt5⟩:=appF ht5
 refine app_s hS kt5 ((qy.mono tl3).now (fun _ h=>h) hS) (fun _=>rfl) rfl ?_;clear hS kt5;intro a4 c4 w hS
 refine ⟨_,hS.cel mp2 rfl,?_⟩
 obtain ⟨o9,h9,c9⟩:=bnd h
 refine cutM_i (fun s w=>∃ (a5:OA) (m6:Nat) (c7:Nat) (jb:List Nat),(List.map nf jb)=o9∧s=((a5,m6,c7),())∧Ho w0 w ((sl a5 m6 c7 (List.map (Value.float .f64) jb) N.t_float64)::L)) (fun J9 hJ9=>?_) ?_
 ·
  have h:=h9
  clear h9
  replace hS:=hS.none (α:=Nat) (enc:=(Value.float .f64)) (t:=N.t_float64)
  refine iter_sim (fun s w t=>∃ (t7:Int) (a10:OA) (m11:Nat) (c12:Nat) (yn:List Nat),(t7,(List.map nf yn))=t∧s=((a10,m11,c12),t7,())∧Ho w0 w ((sl a4 (1+qk) c4 (List.map (Value.float .f64) ([4607182418800017408]++vr)) N.t_float64)::(cl r1 [.int .i64 qa,.int .i64 qb,.slice qc qd qe] N.t_Matrix)::(sl a10 m11 c12 (List.map (Value.float .f64) yn) N.t_float64)::L)) ?_ h ⟨_,_,_,_,_,rfl,rfl,(hS.pick (A:=[_,_,_,_]) [1,2,0] rfl)⟩
  clear h hS
  rintro s w t X q ⟨t7,a10,m11,c12,yn,rfl,rfl,hS⟩ h hX hO
  unfold T_refine_Left_b7 at h
  try dsimp only
  refine cond_s h ?_ ?_<;>intro hc h
  ·
   obtain ⟨t9,ht9,h⟩:=bnd h
   obtain ⟨z14,rfl,q15x,gi,q15r⟩:=atF ht9
   refine idx_s ((yl.mono tl3).now (fun _ h=>h) hS) q15x gi q15r ?_;intro b16 hb16
   refine ⟨_,rd_get ((yl.mono tl3).now (fun _ h=>h) hS) hb16 q15x,?_⟩
   obtain ⟨t10,ht10,h⟩:=bnd h
   obtain rfl:(List.map nf ([z14]:List Nat))=t10:=some_inj ht10
   refine lit_s (ks:=[z14]) (enc:=(Value.float .f64)) (m:=1) hS rfl rfl ?_;intro r17 w hS
   refine ⟨_,_,_,hS.cel mp2 rfl,_,hS.cel mp2 rfl,_,hS.cel mp2 rfl,?_⟩
   obtain ⟨t11,ht11,h⟩:=bnd h
   obtain ⟨rfl,yz,ja,je⟩:=subF ht11
   have gj:=((qq.mono tl4).now (fun _ h=>h) hS).hiCap je
   refine ⟨Int.le_trans yz ja,gj,yz,ja,?_⟩
   obtain ⟨t12,ht12,h⟩:=bnd h
   obtain rfl:=lenF ht12 ((Ent.part (qq.mono tl4) yz ja je).now (fun _ h=>h) hS)
   obtain ⟨o23,h23,c23⟩:=bnd h
   refine cutM_i (fun s w=>∃ (a19:OA) (m20:Nat) (c21:Nat) (jq:List Nat),(List.map nf jq)=o23∧s=((a19,m20,c21),())∧Ho w0 w ((sl a4 (1+qk) c4 (List.map (Value.float .f64) ([4607182418800017408]++vr)) N.t_float64)::(cl r1 [.int .i64 qa,.int .i64 qb,.slice qc qd qe] N.t_Matrix)::(sl a10 m11 c12 (List.map (Value.float .f64) yn) N.t_float64)::(sl a19 m20 c21 (List.map (Value.float .f64) jq) N.t_float64)::L)) (fun J23 hJ23=>?_) ?_
   ·
    have h:=h23
    clear h23
    refine iter_sim (fun s w t=>∃ (t14:Int) (a24:OA) (m25:Nat) (c26:Nat) (jr:List Nat),(t14,(List.map nf jr))=t∧s=((a24,m25,c26),t14,())∧Ho w0 w ((sl a4 (1+qk) c4 (List.map (Value.float .f64) ([4607182418800017408]++vr)) N.t_float64)::(cl r1 [.int .i64 qa,.int .i64 qb,.slice qc qd qe] N.t_Matrix)::(sl a10 m11 c12 (List.map (Value.float .f64) yn) N.t_float64)::(sl a24 m25 c26 (List.map (Value.float .f64) jr) N.t_float64)::L)) ?_ h ⟨_,_,_,_,_,rfl,rfl,(hS.pick (A:=[_,_,_,_]) [1,1,1,0] rfl)⟩
    clear h hS
    rintro s w t X q ⟨t14,a24,m25,c26,jr,rfl,rfl,hS⟩ h hX hO
    unfold T_refine_Left_b9 at h
    try dsimp only
    refine cond_s h ?_ ?_<;>intro hc h
    ·
     obtain ⟨t16,ht16,h⟩:=bnd h
     obtain ⟨z28,rfl,q29x,gk,q29r⟩:=atF ht16
     refine idx_s ((Ent.part (qq.mono tl4) yz ja je).now (fun _ h=>h) hS) q29x gk q29r ?_;intro b30 hb30
     refine ⟨_,rd_get ((Ent.part (qq.mono tl4) yz ja je).now (fun _ h=>h) hS) hb30 q29x,?_⟩
     obtain ⟨t17,ht17,h⟩:=bnd h
     obtain rfl:=fneg_s ht17
     obtain ⟨t18,ht18,h⟩:=bnd h
     obtain rfl:(List.map nf ([(fneg z28)]:List Nat))=t18:=some_inj ht18
     refine lit_s (ks:=[(fneg z28)]) (enc:=(Value.float .f64)) (m:=1) hS rfl rfl ?_;intro r31 w hS
     obtain ⟨t19,ht19,h⟩:=bnd h
     obtain ⟨rfl,kt19⟩:=appF ht19
     replace hS:=ro4 hS
     refine app_s hS kt19 ((Ent.sl mp1).now (fun _ h=>h) hS) (fun _=>rfl) rfl ?_;clear hS kt19;intro a32 c32 w hS
     obtain rfl:=some_inj h
     exact hX _ rfl _ _ ⟨_,_,_,_,_,rfl,rfl,(hS.pick (A:=[_,_,_,_,_]) [2,2,2,0] rfl)⟩
    obtain rfl:=some_inj h
    have h:=congrArg some (hO _ rfl)
    exact hJ23 _ _ ⟨_,_,_,_,some_inj h,rfl,hS⟩
   clear h23 hS
   rintro s w ⟨a19,m20,c21,jq,rfl,rfl,hS⟩
   have h:=c23
   clear c23
   try dsimp only
   obtain ⟨⟨t20,t21⟩,ho20,h⟩:=bnd h
   refine wk_sums_DotExact H hS (Ent.sl mp3) (Ent.sl mp0) (hG.mono tl4) ho20 ?_;clear hS ho20;rintro z33 w rfl hS
   refine ⟨_,_,rfl,?_⟩
   obtain ⟨t22,ht22,h⟩:=bnd h
   obtain rfl:(List.map nf ([z33]:List Nat))=t22:=some_inj ht22
   refine lit_s (ks:=[z33]) (enc:=(Value.float .f64)) (m:=1) hS rfl rfl ?_;intro r34 w hS
   obtain ⟨t23,ht23,h⟩:=bnd h
   obtain ⟨rfl,kt23⟩:=appF ht23
   replace hS:=ro3 hS
   refine app_s hS kt23 ((Ent.sl mp1).now (fun _ h=>h) hS) (fun _=>rfl) rfl ?_;clear hS kt23;intro a35 c35 w hS
   obtain rfl:=some_inj h
   exact hX _ rfl _ _ ⟨_,_,_,_,_,rfl,rfl,(hS.pick (A:=[_,_,_,_,_]) [2,2,0] rfl)⟩
  obtain rfl:=some_inj h
  have h:=congrArg some (hO _ rfl)
  obtain rfl:=some_inj h
  exact hJ9 _ _ ⟨_,_,_,_,rfl,rfl,(hS.pick (A:=[_,_,_]) [2] rfl)⟩
 clear h9 hS
 rintro s w ⟨a5,m6,c7,jb,rfl,rfl,hS⟩
 have h:=c9
 clear c9
 try dsimp only
 obtain ⟨t24,ht24,h⟩:=bnd h
 obtain rfl:(List.map (List.map nf) ([jb]:List (List Nat)))=t24:=some_inj ht24
 refine lit_s (ks:=([(a5,m6,c7)]:List Hd)) (enc:=hdV) (m:=1) hS rfl rfl ?_;intro r36 w hS
 obtain ⟨t25,ht25,h⟩:=bnd h
 refine wk_refine_finite H hS (Ent.sl mp0) (.cons (Ent.sl mp1) .nil) ht25 ?_;rintro w hS
 refine ⟨_,rfl,?_⟩
 refine cond_s h ?_ ?_<;>intro hc h
 ·
  replace hS:=hS.none (α:=Nat) (enc:=(Value.float .f64)) (t:=N.t_float64)
  cases some_inj h
  exact hK _ _ _ _ _ rfl (hS.pick (A:=[_,_,_]) [0] rfl)
 cases some_inj h
 exact hK _ _ _ _ _ rfl (hS.pick (A:=[_,_]) [1] rfl)
theorem wk_lower_Right {qa qb qf qg vn qc qd qe qs u0} (hS:Ho w0 w L) (qo:EF L vn qb qf qg) (qq:EF L qs qc qd qe) (h:T_lower_Right qa (List.map nf vn) (List.map nf qs)=some u0) (hK:∀ w1,Ho w0 w1 L→K (.bool u0) w1):CallsX P N.f_lower_Right #[.agg #[.int .i64 qa,.slice qb qf qg,.slice qc qd qe]] w K:=by
 refine H.lower_Right qa qb qf qg qc qd qe w _ ?_
 unfold S_lower_Right
 unfold T_lower_Right at h
 try dsimp only
 refine newM_s hS ?_;intro r1 w hS
 refine ⟨_,hS.cel mp0 rfl,?_⟩
 refine cond_s h ?_ ?_<;>intro hc h
 ·
  refine ⟨_,hS.cel mp0 rfl,?_⟩
  refine cond_s h ?_ ?_<;>intro hc h
  ·
   refine ⟨_,_,_,hS.cel mp0 rfl,?_⟩
   obtain ⟨t1,ht1,h⟩:=bnd h
   obtain rfl:=lenF ht1 ((qo.mono tl1).now (fun _ h=>h) hS)
   refine ⟨_,hS.cel mp0 rfl,_,hS.cel mp0 rfl,?_⟩
   refine ⟨by decide,?_⟩
   refine cond_s h ?_ ?_<;>intro hc h
   ·
    refine ⟨_,_,_,hS.cel mp0 rfl,?_⟩
    obtain ⟨t2,ht2,h⟩:=bnd h
    obtain rfl:=lenF ht2 ((qq.mono tl1).now (fun _ h=>h) hS)
    refine ⟨_,hS.cel mp0 rfl,?_⟩
    cases some_inj h
    exact hK _ (hS.pick (A:=[_]) [] rfl)
   cases some_inj h
   exact hK _ (hS.pick (A:=[_]) [] rfl)
  cases some_inj h
  exact hK _ (hS.pick (A:=[_]) [] rfl)
 cases some_inj h
 exact hK _ (hS.pick (A:=[_]) [] rfl)
theorem wk_refine_fits {qa qb qc qd qe qs ql qm qi qj ye qt qv qw yf u0} (hS:Ho w0 w L) (qq:EF L qs qc qd qe) (qr:EF L ye qm qi qj) (yg:EF L yf qt qv qw) (h:T_refine_fits qa qb (List.map nf qs) ql (List.map nf ye) (List.map nf yf)=some u0) (hK:∀ w1,Ho w0 w1 L→K (.bool u0) w1):CallsX P N.f_refine_fits #[.agg #[.int .i64 qa,.int .i64 qb,.slice qc qd qe],.agg #[.int .i64 ql,.slice qm qi qj,.slice qt qv qw]] w K:=by
 refine H.refine_fits qa qb qc qd qe ql qm qi qj qt qv qw w _ ?_
 unfold S_refine_fits
 unfold T_refine_fits at h
 try dsimp only
 refine newM_s hS ?_;intro r1 w hS
 refine newM_s hS ?_;intro r2 w hS
 refine ⟨_,hS.cel mp1 rfl,_,hS.cel mp1 rfl,_,_,_,hS.cel mp1 rfl,?_⟩
 obtain ⟨t1,ht1,h⟩:=bnd h
 refine wk_matrix_Right H hS (qq.mono tl2) ht1 ?_;rintro w hS
 refine ⟨_,rfl,?_⟩
 refine cond_s h ?_ ?_<;>intro hc h
 ·
  refine ⟨_,hS.cel mp0 rfl,_,_,_,hS.cel mp0 rfl,_,_,_,hS.cel mp0 rfl,?_⟩
  obtain ⟨t2,ht2,h⟩:=bnd h
  refine wk_lower_Right H hS (qr.mono tl2) (yg.mono tl2) ht2 ?_;rintro w hS
  refine ⟨_,rfl,?_⟩
  refine cond_s h ?_ ?_<;>intro hc h
  ·
   refine ⟨_,hS.cel mp1 rfl,_,hS.cel mp0 rfl,?_⟩
   refine cond_s h ?_ ?_<;>intro hc h
   ·
    refine ⟨_,hS.cel mp1 rfl,_,hS.cel mp0 rfl,?_⟩
    cases some_inj h
    exact hK _ (hS.pick (A:=[_,_]) [] rfl)
   cases some_inj h
   exact hK _ (hS.pick (A:=[_,_]) [] rfl)
  cases some_inj h
  exact hK _ (hS.pick (A:=[_,_]) [] rfl)
 cases some_inj h
 exact hK _ (hS.pick (A:=[_,_]) [] rfl)
theorem wk_solve_fits {qa qb qf qg vn qc qd qe qs q1 u0} (hS:Ho w0 w L) (qo:EF L vn qb qf qg) (qq:EF L qs qc qd qe) (h:T_solve_fits qa (List.map nf vn) (List.map nf qs) q1=some u0) (hK:∀ w1,Ho w0 w1 L→K (.int .i64 u0) w1):CallsX P N.f_solve_fits #[.agg #[.int .i64 qa,.slice qb qf qg,.slice qc qd qe],.int .i64 q1] w K:=by
 refine H.solve_fits qa qb qf qg qc qd qe q1 w _ ?_
 unfold S_solve_fits
 unfold T_solve_fits at h
 try dsimp only
 refine newM_s hS ?_;intro r1 w hS
 refine ⟨_,hS.cel mp0 rfl,_,_,_,hS.cel mp0 rfl,_,_,_,hS.cel mp0 rfl,?_⟩
 obtain ⟨t1,ht1,h⟩:=bnd h
 refine wk_lower_Right H hS (qo.mono tl1) (qq.mono tl1) ht1 ?_;rintro w hS
 refine ⟨_,rfl,?_⟩
 refine cond_s h ?_ ?_<;>intro hc h
 ·
  refine ⟨_,hS.cel mp0 rfl,?_⟩
  refine cond_s h ?_ ?_<;>intro hc h
  ·
   cases some_inj h
   exact hK _ (hS.pick (A:=[_]) [] rfl)
  cases some_inj h
  exact hK _ (hS.pick (A:=[_]) [] rfl)
 cases some_inj h
 exact hK _ (hS.pick (A:=[_]) [] rfl)
theorem wk_slices_Clone___float64_float64 {q0 qh qn vu u0} (hS:Ho w0 w L) (qu:EF L vu q0 qh qn) (hx:T_slices_Clone___float64_float64 (List.map nf vu)=some u0) (hK:∀ (a0:OA) (n0 c0:Nat) (rws0:List Nat) (w1:World),List.map nf rws0=u0→Ho w0 w1 ((sl a0 n0 c0 (List.map (Value.float .f64) rws0) N.t_float64)::L)→K (.slice a0 n0 c0) w1):CallsX P N.f_slices_Clone___float64_float64 #[.slice q0 qh qn] w K:=by
 unfold T_slices_Clone___float64_float64 at hx
 have hd:(List.map nf vu).length≤4294967296:=by
  rcases Nat.lt_or_ge 4294967296 (List.map nf vu).length with h | h
  ·
   rw [decide_eq_false (by omega)] at hx;cases hx
  exact h
 rw [decide_eq_true hd] at hx
 have hx:=some_inj hx
 refine H.slices_Clone___float64_float64 q0 qh qn w _ ?_
 unfold S_slices_Clone___float64_float64
 have r0:=qu.now (fun _ h=>h) hS
 refine cond_i (fun hc=>?_) (fun hc=>?_)
 ·
  have e:q0=none:=by cases q0<;>simp_all
  have e0:vu = []:=by
   cases vu with
   | nil=>rfl
   | cons x l=>obtain ⟨y,hy,_⟩:=r0.at_ 0 (by rw [r0.len];simp);rw [e] at hy;cases hy
  subst e0
  exact hK none 0 0 [] w hx (hS.none (α:=Nat) (enc:=Value.float .f64))
 refine lit_s (ks:=([]:List Nat)) (enc:=Value.float .f64) (m:=0) hS rfl rfl ?_
 intro r w1 hS1
 refine app_s (ws:=[]) hS1 (by simp at hd ⊢;omega) ((qu.mono tl1).now (fun _ h=>h) hS1) (fun _=>rfl) rfl ?_
 intro a' c' w2 hS2
 exact hK a' _ c' vu w2 hx (by simpa using hS2)
theorem wk_solve_below {qa qb qf qg vn qc qd qe qs q1 q2 u0} (hS:Ho w0 w L) (qo:EF L vn qb qf qg) (qq:EF L qs qc qd qe) (h:T_solve_below qa (List.map nf vn) (List.map nf qs) q1 q2=some u0) (hK:∀ (z0:Nat) (w1:World),nf z0=u0→Ho w0 w1 L→K (.float .f64 z0) w1):CallsX P N.f_solve_below #[.agg #[.int .i64 qa,.slice qb qf qg,.slice qc qd qe],.int .i64 q1,.int .i64 q2] w K:=by
 refine H.solve_below qa qb qf qg qc qd qe q1 q2 w _ ?_
 unfold S_solve_below
 unfold T_solve_below at h
 try dsimp only
 refine newM_s hS ?_;intro r1 w hS
 refine ⟨_,_,_,hS.cel mp0 rfl,?_⟩
 refine ⟨by decide,?_⟩
 obtain ⟨t1,ht1,h⟩:=bnd h
 obtain ⟨z2,rfl,q3x,vt,q3r⟩:=atF ht1
 refine idx_s ((qo.mono tl1).now (fun _ h=>h) hS) q3x vt q3r ?_;intro b4 hb4
 refine ⟨_,rd_get ((qo.mono tl1).now (fun _ h=>h) hS) hb4 q3x,?_⟩
 cases some_inj h
 exact hK _ _ rfl (hS.pick (A:=[_]) [] rfl)
theorem wk_solve_Forward {qa qb qf qg vn qc qd qe qs q1 qk qp vr u0 u1} (hS:Ho w0 w L) (qo:EF L vn qb qf qg) (qq:EF L qs qc qd qe) (qy:EF L vr q1 qk qp) (h:T_solve_Forward qa (List.map nf vn) (List.map nf qs) (List.map nf vr)=some (u0,u1)) (hK:∀ (a0:OA) (n0 c0:Nat) (rws0:List Nat) (w1:World),List.map nf rws0=u0→Ho w0 w1 ((sl a0 n0 c0 (List.map (Value.float .f64) rws0) N.t_float64)::L)→K (.tuple #[.slice a0 n0 c0,.int .i64 u1]) w1):CallsX P N.f_solve_Forward #[.agg #[.int .i64 qa,.slice qb qf qg,.slice qc qd qe],.slice q1 qk qp] w K:=by
 refine H.solve_Forward qa qb qf qg qc qd qe q1 qk qp w _ ?_
 unfold S_solve_Forward
 unfold T_solve_Forward at h
 try dsimp only
 refine newM_s hS ?_;intro r1 w hS
 refine ⟨_,hS.cel mp0 rfl,_,_,_,hS.cel mp0 rfl,_,_,_,hS.cel mp0 rfl,?_⟩
 obtain ⟨t1,ht1,h⟩:=bnd h
 obtain rfl:=lenF ht1 ((qy.mono tl1).now (fun _ h=>h) hS)
 obtain ⟨t2,ht2,h⟩:=bnd h
 refine wk_solve_fits H hS (qo.mono tl1) (qq.mono tl1) ht2 ?_;rintro w hS
 refine ⟨_,rfl,?_⟩
 refine cond_s h ?_ ?_<;>intro hc h
 ·
  replace hS:=hS.none (α:=Nat) (enc:=(Value.float .f64)) (t:=N.t_float64)
  cases some_inj h
  exact hK _ _ _ _ _ rfl (hS.pick (A:=[_,_]) [0] rfl)
 obtain ⟨t3,ht3,h⟩:=bnd h
 refine wk_slices_Clone___float64_float64 H hS (qy.mono tl1) ht3 ?_;rintro a2 m2 c2 yh w rfl hS
 refine ⟨_,_,_,rfl,?_⟩
 obtain ⟨t4,ht4,h⟩:=bnd h
 obtain rfl:=lenF ht4 ((Ent.sl mp0).now (fun _ h=>h) hS)
 obtain ⟨o4,h4,c4⟩:=bnd h
 refine cutM_i (fun s w=>∃ (yt:List Nat),(List.map nf yt)=o4∧s=(())∧Ho w0 w ((sl a2 m2 c2 (List.map (Value.float .f64) yt) N.t_float64)::L)) (fun J4 hJ4=>?_) ?_
 ·
  have h:=h4
  clear h4
  refine iter_sim (fun s w t=>∃ (t6:Int) (jh:List Nat),(t6,(List.map nf jh))=t∧s=(t6,())∧Ho w0 w ((sl a2 m2 c2 (List.map (Value.float .f64) jh) N.t_float64)::(cl r1 [.int .i64 qa,.slice qb qf qg,.slice qc qd qe] N.t_Factor)::L)) ?_ h ⟨_,_,rfl,rfl,hS⟩
  clear h hS
  rintro s w t X q ⟨t6,jh,rfl,rfl,hS⟩ h hX hO
  unfold T_solve_Forward_b7 at h
  try dsimp only
  refine cond_s h ?_ ?_<;>intro hc h
  ·
   obtain ⟨o7,h7,c7⟩:=bnd h
   refine cutM_i (fun s w=>∃ (jf:List Nat),(List.map nf jf)=o7∧s=(())∧Ho w0 w ((sl a2 m2 c2 (List.map (Value.float .f64) jf) N.t_float64)::(cl r1 [.int .i64 qa,.slice qb qf qg,.slice qc qd qe] N.t_Factor)::L)) (fun J7 hJ7=>?_) ?_
   ·
    have h:=h7
    clear h7
    refine iter_sim (fun s w t=>∃ (t9:Int) (jb:List Nat),(t9,(List.map nf jb))=t∧s=(t9,())∧Ho w0 w ((sl a2 m2 c2 (List.map (Value.float .f64) jb) N.t_float64)::(cl r1 [.int .i64 qa,.slice qb qf qg,.slice qc qd qe] N.t_Factor)::L)) ?_ h ⟨_,_,rfl,rfl,hS⟩
    clear h hS
    rintro s w t X q ⟨t9,jb,rfl,rfl,hS⟩ h hX hO
    unfold T_solve_Forward_b9 at h
    try dsimp only
    refine cond_s h ?_ ?_<;>intro hc h
    ·
     obtain ⟨t11,ht11,h⟩:=bnd h
     obtain ⟨z9,rfl,q10x,js,q10r⟩:=atF ht11
     refine idx_s ((Ent.sl mp0).now (fun _ h=>h) hS) q10x js q10r ?_;intro b11 hb11
     refine ⟨_,rd_get ((Ent.sl mp0).now (fun _ h=>h) hS) hb11 q10x,?_⟩
     refine ⟨_,hS.cel mp1 rfl,_,_,_,hS.cel mp1 rfl,_,_,_,hS.cel mp1 rfl,?_⟩
     obtain ⟨t12,ht12,h⟩:=bnd h
     obtain ⟨z12,rfl,q13x,yx,q13r⟩:=atF ht12
     refine idx_s ((Ent.sl mp0).now (fun _ h=>h) hS) q13x yx q13r ?_;intro b14 hb14
     refine ⟨_,rd_get ((Ent.sl mp0).now (fun _ h=>h) hS) hb14 q13x,?_⟩
     refine drM_s hS ?_;intro w hS
     obtain ⟨t13,ht13,h⟩:=bnd h
     refine wk_solve_below H hS (qo.mono tl2) (qq.mono tl2) ht13 ?_;rintro z15 w rfl hS
     refine ⟨_,rfl,?_⟩
     refine ⟨rd_get ((Ent.sl mp0).now (fun _ h=>h) hS) hb14 q13x,?_⟩
     refine ⟨rd_get ((Ent.sl mp0).now (fun _ h=>h) hS) hb11 q10x,?_⟩
     obtain ⟨t14,ht14,h⟩:=bnd h
     refine fmul_s ht14 hS ?_;clear ht14;rintro z16 _ rfl _
     obtain ⟨t15,ht15,h⟩:=bnd h
     refine fsub_s ht15 hS ?_;clear ht15;rintro z17 _ rfl _
     obtain ⟨t16,ht16,h⟩:=bnd h
     obtain ⟨z18,rfl,q19x,jo,q19r⟩:=atF ht16
     refine idx_s ((Ent.sl mp0).now (fun _ h=>h) hS) q19x jo q19r ?_;intro b20 hb20
     refine drM_s hS ?_;intro w hS
     obtain ⟨t17,ht17,h⟩:=bnd h
     obtain rfl:=setF ht17
     refine sto_s hS hb20 q19r ?_;intro w hS
     refine drM_s hS ?_;intro w hS
     obtain rfl:=some_inj h
     exact hX _ rfl _ _ ⟨_,_,rfl,rfl,hS⟩
    obtain rfl:=some_inj h
    have h:=congrArg some (hO _ rfl)
    exact hJ7 _ _ ⟨_,some_inj h,rfl,hS⟩
   clear h7 hS
   rintro s w ⟨jf,rfl,rfl,hS⟩
   have h:=c7
   clear c7
   try dsimp only
   obtain rfl:=some_inj h
   exact hX _ rfl _ _ ⟨_,_,rfl,rfl,hS⟩
  obtain rfl:=some_inj h
  have h:=congrArg some (hO _ rfl)
  obtain rfl:=some_inj h
  exact hJ4 _ _ ⟨_,rfl,rfl,(hS.pick (A:=[_,_]) [0] rfl)⟩
 clear h4 hS
 rintro s w ⟨yt,rfl,rfl,hS⟩
 have h:=c4
 clear c4
 try dsimp only
 cases some_inj h
 exact hK _ _ _ _ _ rfl hS
theorem wk_slices_Index___float64_float64 {q0 qh qn vu q1 u0} (hS:Ho w0 w L) (qu:EF L vu q0 qh qn) (h:T_slices_Index___float64_float64 (List.map nf vu) (nf q1)=some u0) (hK:∀ w1,Ho w0 w1 L→K (.int .i64 u0) w1):CallsX P N.f_slices_Index___float64_float64 #[.slice q0 qh qn,.float .f64 q1] w K:=by
 refine H.slices_Index___float64_float64 q0 qh qn q1 w _ ?_
 unfold S_slices_Index___float64_float64
 unfold T_slices_Index___float64_float64 at h
 try dsimp only
 obtain ⟨t1,ht1,h⟩:=bnd h
 obtain rfl:=lenF ht1 (qu.now (fun _ h=>h) hS)
 obtain ⟨o1,h1,c1⟩:=bnd h
 refine cutM_i (fun s w =>  .inl ()=o1∧s=(())∧Ho w0 w L) (fun J1 hJ1=>?_) ?_
 ·
  have h:=h1
  clear h1
  refine iter_sim (fun s w t=>∃ (t2:Int),t2=t∧s=(t2,())∧Ho w0 w L) ?_ h ⟨_,rfl,rfl,hS⟩
  clear h hS
  rintro s w t X q ⟨t2,rfl,rfl,hS⟩ h hX hO
  unfold T_slices_Index___float64_float64_b2 at h
  try dsimp only
  refine cond_s h ?_ ?_<;>intro hc h
  ·
   obtain ⟨t3,ht3,h⟩:=bnd h
   obtain ⟨z2,rfl,q3x,vt,q3r⟩:=atF ht3
   refine idx_s (qu.now (fun _ h=>h) hS) q3x vt q3r ?_;intro b4 hb4
   refine ⟨_,rd_get (qu.now (fun _ h=>h) hS) hb4 q3x,?_⟩
   obtain ⟨t4,ht4,h⟩:=bnd h
   obtain rfl:=feq_s ht4
   refine cond_s h ?_ ?_<;>intro hc h
   ·
    obtain rfl:=some_inj h
    have h:=congrArg some (hO _ rfl)
    obtain rfl:=some_inj h
    have h:=c1
    cases some_inj h
    exact hK _ hS
   obtain rfl:=some_inj h
   exact hX _ rfl _ _ ⟨_,rfl,rfl,hS⟩
  obtain rfl:=some_inj h
  have h:=congrArg some (hO _ rfl)
  exact hJ1 _ _ ⟨some_inj h,rfl,hS⟩
 clear h1 hS
 rintro s w ⟨rfl,rfl,hS⟩
 have h:=c1
 clear c1
 try dsimp only
 cases some_inj h
 exact hK _ hS
theorem wk_slices_Contains___float64_float64 {q0 qh qn vu q1 u0} (hS:Ho w0 w L) (qu:EF L vu q0 qh qn) (h:T_slices_Contains___float64_float64 (List.map nf vu) (nf q1)=some u0) (hK:∀ w1,Ho w0 w1 L→K (.bool u0) w1):CallsX P N.f_slices_Contains___float64_float64 #[.slice q0 qh qn,.float .f64 q1] w K:=by
 refine H.slices_Contains___float64_float64 q0 qh qn q1 w _ ?_
 unfold S_slices_Contains___float64_float64
 unfold T_slices_Contains___float64_float64 at h
 try dsimp only
 obtain ⟨t1,ht1,h⟩:=bnd h
 refine wk_slices_Index___float64_float64 H hS qu ht1 ?_;rintro w hS
 refine ⟨_,rfl,?_⟩
 cases some_inj h
 exact hK _ hS
theorem wk_solve_Back {qa qb qf qg vn qc qd qe qs q1 qk qp vr u0 u1} (hS:Ho w0 w L) (qo:EF L vn qb qf qg) (qq:EF L qs qc qd qe) (qy:EF L vr q1 qk qp) (h:T_solve_Back qa (List.map nf vn) (List.map nf qs) (List.map nf vr)=some (u0,u1)) (hK:∀ (a0:OA) (n0 c0:Nat) (rws0:List Nat) (w1:World),List.map nf rws0=u0→Ho w0 w1 ((sl a0 n0 c0 (List.map (Value.float .f64) rws0) N.t_float64)::L)→K (.tuple #[.slice a0 n0 c0,.int .i64 u1]) w1):CallsX P N.f_solve_Back #[.agg #[.int .i64 qa,.slice qb qf qg,.slice qc qd qe],.slice q1 qk qp] w K:=by
 refine H.solve_Back qa qb qf qg qc qd qe q1 qk qp w _ ?_
 unfold S_solve_Back
 unfold T_solve_Back at h
 try dsimp only
 refine newM_s hS ?_;intro r1 w hS
 refine ⟨_,hS.cel mp0 rfl,_,_,_,hS.cel mp0 rfl,_,_,_,hS.cel mp0 rfl,?_⟩
 obtain ⟨t1,ht1,h⟩:=bnd h
 obtain rfl:=lenF ht1 ((qy.mono tl1).now (fun _ h=>h) hS)
 obtain ⟨t2,ht2,h⟩:=bnd h
 refine wk_solve_fits H hS (qo.mono tl1) (qq.mono tl1) ht2 ?_;rintro w hS
 refine ⟨_,rfl,?_⟩
 refine cond_s h ?_ ?_<;>intro hc h
 ·
  replace hS:=hS.none (α:=Nat) (enc:=(Value.float .f64)) (t:=N.t_float64)
  cases some_inj h
  exact hK _ _ _ _ _ rfl (hS.pick (A:=[_,_]) [0] rfl)
 refine ⟨_,_,_,hS.cel mp0 rfl,?_⟩
 obtain ⟨t3,ht3,h⟩:=bnd h
 refine wk_slices_Contains___float64_float64 H hS (qq.mono tl1) ht3 ?_;rintro w hS
 refine ⟨_,rfl,?_⟩
 refine cond_s h ?_ ?_<;>intro hc h
 ·
  replace hS:=hS.none (α:=Nat) (enc:=(Value.float .f64)) (t:=N.t_float64)
  cases some_inj h
  exact hK _ _ _ _ _ rfl (hS.pick (A:=[_,_]) [0] rfl)
 obtain ⟨t4,ht4,h⟩:=bnd h
 refine wk_slices_Clone___float64_float64 H hS (qy.mono tl1) ht4 ?_;rintro a2 m2 c2 yh w rfl hS
 refine ⟨_,_,_,rfl,?_⟩
 refine ⟨_,_,_,hS.cel mp1 rfl,?_⟩
 obtain ⟨t5,ht5,h⟩:=bnd h
 obtain rfl:=lenF ht5 ((qq.mono tl2).now (fun _ h=>h) hS)
 obtain ⟨o4,h4,c4⟩:=bnd h
 refine cutM_i (fun s w=>∃ (yt:List Nat),(List.map nf yt)=o4∧s=(())∧Ho w0 w ((sl a2 m2 c2 (List.map (Value.float .f64) yt) N.t_float64)::(cl r1 [.int .i64 qa,.slice qb qf qg,.slice qc qd qe] N.t_Factor)::L)) (fun J4 hJ4=>?_) ?_
 ·
  have h:=h4
  clear h4
  refine iter_sim (fun s w t=>∃ (t7:Int) (jh:List Nat),(t7,(List.map nf jh))=t∧s=(t7,())∧Ho w0 w ((sl a2 m2 c2 (List.map (Value.float .f64) jh) N.t_float64)::(cl r1 [.int .i64 qa,.slice qb qf qg,.slice qc qd qe] N.t_Factor)::L)) ?_ h ⟨_,_,rfl,rfl,hS⟩
  clear h hS
  rintro s w t X q ⟨t7,jh,rfl,rfl,hS⟩ h hX hO
  unfold T_solve_Back_b2 at h
  try dsimp only
  refine cond_s h ?_ ?_<;>intro hc h
  ·
   obtain ⟨t9,ht9,h⟩:=bnd h
   obtain ⟨z6,rfl,q7x,ji,q7r⟩:=atF ht9
   refine idx_s ((qq.mono tl2).now (fun _ h=>h) hS) q7x ji q7r ?_;intro b8 hb8
   refine ⟨_,rd_get ((qq.mono tl2).now (fun _ h=>h) hS) hb8 q7x,?_⟩
   obtain ⟨t10,ht10,h⟩:=bnd h
   obtain ⟨z9,rfl,q10x,js,q10r⟩:=atF ht10
   refine idx_s ((Ent.sl mp0).now (fun _ h=>h) hS) q10x js q10r ?_;intro b11 hb11
   refine ⟨_,rd_get ((Ent.sl mp0).now (fun _ h=>h) hS) hb11 q10x,?_⟩
   obtain ⟨t11,ht11,h⟩:=bnd h
   refine fdiv_s ht11 hS ?_;rintro z12 w rfl hS
   obtain ⟨t12,ht12,h⟩:=bnd h
   obtain ⟨z13,rfl,q14x,jm,q14r⟩:=atF ht12
   refine idx_s ((Ent.sl mp0).now (fun _ h=>h) hS) q14x jm q14r ?_;intro b15 hb15
   obtain ⟨t13,ht13,h⟩:=bnd h
   obtain rfl:=setF ht13
   refine sto_s hS hb15 q14r ?_;intro w hS
   obtain rfl:=some_inj h
   exact hX _ rfl _ _ ⟨_,_,rfl,rfl,hS⟩
  obtain rfl:=some_inj h
  have h:=congrArg some (hO _ rfl)
  exact hJ4 _ _ ⟨_,some_inj h,rfl,hS⟩
 clear h4 hS
 rintro s w ⟨yt,rfl,rfl,hS⟩
 have h:=c4
 clear c4
 try dsimp only
 obtain ⟨t14,ht14,h⟩:=bnd h
 obtain rfl:=lenF ht14 ((Ent.sl mp0).now (fun _ h=>h) hS)
 obtain ⟨o17,h17,c17⟩:=bnd h
 refine cutM_i (fun s w=>∃ (jt:List Nat),(List.map nf jt)=o17∧s=(())∧Ho w0 w ((sl a2 m2 c2 (List.map (Value.float .f64) jt) N.t_float64)::L)) (fun J17 hJ17=>?_) ?_
 ·
  have h:=h17
  clear h17
  refine iter_sim (fun s w t=>∃ (t16:Int) (ju:List Nat),(t16,(List.map nf ju))=t∧s=(t16,())∧Ho w0 w ((sl a2 m2 c2 (List.map (Value.float .f64) ju) N.t_float64)::(cl r1 [.int .i64 qa,.slice qb qf qg,.slice qc qd qe] N.t_Factor)::L)) ?_ h ⟨_,_,rfl,rfl,hS⟩
  clear h hS
  rintro s w t X q ⟨t16,ju,rfl,rfl,hS⟩ h hX hO
  unfold T_solve_Back_b9 at h
  try dsimp only
  refine cond_s h ?_ ?_<;>intro hc h
  ·
   obtain ⟨t18,ht18,h⟩:=bnd h
   obtain rfl:=lenF ht18 ((Ent.sl mp0).now (fun _ h=>h) hS)
   obtain ⟨o20,h20,c20⟩:=bnd h
   refine cutM_i (fun s w=>∃ (yu:List Nat),(List.map nf yu)=o20∧s=(())∧Ho w0 w ((sl a2 m2 c2 (List.map (Value.float .f64) yu) N.t_float64)::(cl r1 [.int .i64 qa,.slice qb qf qg,.slice qc qd qe] N.t_Factor)::L)) (fun J20 hJ20=>?_) ?_
   ·
    have h:=h20
    clear h20
    refine iter_sim (fun s w t=>∃ (t20:Int) (jg:List Nat),(t20,(List.map nf jg))=t∧s=(t20,())∧Ho w0 w ((sl a2 m2 c2 (List.map (Value.float .f64) jg) N.t_float64)::(cl r1 [.int .i64 qa,.slice qb qf qg,.slice qc qd qe] N.t_Factor)::L)) ?_ h ⟨_,_,rfl,rfl,hS⟩
    clear h hS
    rintro s w t X q ⟨t20,jg,rfl,rfl,hS⟩ h hX hO
    unfold T_solve_Back_b11 at h
    try dsimp only
    obtain ⟨t22,ht22,h⟩:=bnd h
    obtain rfl:=lenF ht22 ((Ent.sl mp0).now (fun _ h=>h) hS)
    refine cond_s h ?_ ?_<;>intro hc h
    ·
     obtain ⟨t23,ht23,h⟩:=bnd h
     obtain ⟨z22,rfl,q23x,gl,q23r⟩:=atF ht23
     refine idx_s ((Ent.sl mp0).now (fun _ h=>h) hS) q23x gl q23r ?_;intro b24 hb24
     refine ⟨_,rd_get ((Ent.sl mp0).now (fun _ h=>h) hS) hb24 q23x,?_⟩
     refine ⟨_,hS.cel mp1 rfl,_,_,_,hS.cel mp1 rfl,_,_,_,hS.cel mp1 rfl,?_⟩
     obtain ⟨t24,ht24,h⟩:=bnd h
     obtain ⟨z25,rfl,q26x,gm,q26r⟩:=atF ht24
     refine idx_s ((Ent.sl mp0).now (fun _ h=>h) hS) q26x gm q26r ?_;intro b27 hb27
     refine ⟨_,rd_get ((Ent.sl mp0).now (fun _ h=>h) hS) hb27 q26x,?_⟩
     refine drM_s hS ?_;intro w hS
     obtain ⟨t25,ht25,h⟩:=bnd h
     refine wk_solve_below H hS (qo.mono tl2) (qq.mono tl2) ht25 ?_;rintro z28 w rfl hS
     refine ⟨_,rfl,?_⟩
     refine ⟨rd_get ((Ent.sl mp0).now (fun _ h=>h) hS) hb27 q26x,?_⟩
     refine ⟨rd_get ((Ent.sl mp0).now (fun _ h=>h) hS) hb24 q23x,?_⟩
     obtain ⟨t26,ht26,h⟩:=bnd h
     refine fmul_s ht26 hS ?_;clear ht26;rintro z29 _ rfl _
     obtain ⟨t27,ht27,h⟩:=bnd h
     refine fsub_s ht27 hS ?_;clear ht27;rintro z30 _ rfl _
     obtain ⟨t28,ht28,h⟩:=bnd h
     obtain ⟨z31,rfl,q32x,gn,q32r⟩:=atF ht28
     refine idx_s ((Ent.sl mp0).now (fun _ h=>h) hS) q32x gn q32r ?_;intro b33 hb33
     refine drM_s hS ?_;intro w hS
     obtain ⟨t29,ht29,h⟩:=bnd h
     obtain rfl:=setF ht29
     refine sto_s hS hb33 q32r ?_;intro w hS
     refine drM_s hS ?_;intro w hS
     obtain rfl:=some_inj h
     exact hX _ rfl _ _ ⟨_,_,rfl,rfl,hS⟩
    obtain rfl:=some_inj h
    have h:=congrArg some (hO _ rfl)
    exact hJ20 _ _ ⟨_,some_inj h,rfl,hS⟩
   clear h20 hS
   rintro s w ⟨yu,rfl,rfl,hS⟩
   have h:=c20
   clear c20
   try dsimp only
   obtain rfl:=some_inj h
   exact hX _ rfl _ _ ⟨_,_,rfl,rfl,hS⟩
  obtain rfl:=some_inj h
  have h:=congrArg some (hO _ rfl)
  obtain rfl:=some_inj h
  exact hJ17 _ _ ⟨_,rfl,rfl,(hS.pick (A:=[_,_]) [0] rfl)⟩
 clear h17 hS
 rintro s w ⟨jt,rfl,rfl,hS⟩
 have h:=c17
 clear c17
 try dsimp only
 cases some_inj h
 exact hK _ _ _ _ _ rfl hS
theorem wk_solve_Solve {qa qb qf qg vn qc qd qe qs q1 qk qp vr u0 u1} (hS:Ho w0 w L) (qo:EF L vn qb qf qg) (qq:EF L qs qc qd qe) (qy:EF L vr q1 qk qp) (h:T_solve_Solve qa (List.map nf vn) (List.map nf qs) (List.map nf vr)=some (u0,u1)) (hK:∀ (a0:OA) (n0 c0:Nat) (rws0:List Nat) (w1:World),List.map nf rws0=u0→Ho w0 w1 ((sl a0 n0 c0 (List.map (Value.float .f64) rws0) N.t_float64)::L)→K (.tuple #[.slice a0 n0 c0,.int .i64 u1]) w1):CallsX P N.f_solve_Solve #[.agg #[.int .i64 qa,.slice qb qf qg,.slice qc qd qe],.slice q1 qk qp] w K:=by
 refine H.solve_Solve qa qb qf qg qc qd qe q1 qk qp w _ ?_
 unfold S_solve_Solve
 unfold T_solve_Solve at h
 try dsimp only
 refine newM_s hS ?_;intro r1 w hS
 refine ⟨_,hS.cel mp0 rfl,_,_,_,hS.cel mp0 rfl,_,_,_,hS.cel mp0 rfl,?_⟩
 obtain ⟨⟨t1,t2⟩,ho1,h⟩:=bnd h
 refine wk_solve_Forward H hS (qo.mono tl1) (qq.mono tl1) (qy.mono tl1) ho1 ?_;clear hS ho1;rintro a2 m2 c2 yh w rfl hS
 refine ⟨_,_,_,_,rfl,?_⟩
 refine cond_s h ?_ ?_<;>intro hc h
 ·
  replace hS:=hS.none (α:=Nat) (enc:=(Value.float .f64)) (t:=N.t_float64)
  cases some_inj h
  exact hK _ _ _ _ _ rfl (hS.pick (A:=[_,_,_]) [0] rfl)
 refine ⟨_,hS.cel mp1 rfl,_,_,_,hS.cel mp1 rfl,_,_,_,hS.cel mp1 rfl,?_⟩
 obtain ⟨⟨t3,t4⟩,ho3,h⟩:=bnd h
 refine wk_solve_Back H hS (qo.mono tl2) (qq.mono tl2) (Ent.sl mp0) ho3 ?_;clear hS ho3;rintro a3 m3 c3 yt w rfl hS
 refine ⟨_,_,_,_,rfl,?_⟩
 cases some_inj h
 exact hK _ _ _ _ _ rfl (hS.pick (A:=[_,_,_]) [0] rfl)
theorem wk_round_way {q0 u0} (hS:Ho w0 w L)  (h:T_round_way q0=some u0) (hK:∀ w1,Ho w0 w1 L→K (.int .i8 u0) w1):CallsX P N.f_round_way #[.int .i8 q0] w K:=by
 refine H.round_way q0 w _ ?_
 unfold S_round_way
 unfold T_round_way at h
 try dsimp only
 refine cond_s h ?_ ?_<;>intro hc h
 ·
  refine cond_s h ?_ ?_<;>intro hc h
  ·
   cases some_inj h
   exact hK _ hS
  cases some_inj h
  exact hK _ hS
 cases some_inj h
 exact hK _ hS
theorem wk_round_finite {q0 qh qn vu u0} (hS:Ho w0 w L) (qu:EF L vu q0 qh qn) (h:T_round_finite (List.map nf vu)=some u0) (hK:∀ w1,Ho w0 w1 L→K (.bool u0) w1):CallsX P N.f_round_finite #[.slice q0 qh qn] w K:=by
 refine H.round_finite q0 qh qn w _ ?_
 unfold S_round_finite
 unfold T_round_finite at h
 try dsimp only
 obtain ⟨t1,ht1,h⟩:=bnd h
 obtain rfl:=lenF ht1 (qu.now (fun _ h=>h) hS)
 obtain ⟨o1,h1,c1⟩:=bnd h
 refine cutM_i (fun s w =>  .inl ()=o1∧s=(())∧Ho w0 w L) (fun J1 hJ1=>?_) ?_
 ·
  have h:=h1
  clear h1
  refine iter_sim (fun s w t=>∃ (t2:Int),t2=t∧s=(t2,())∧Ho w0 w L) ?_ h ⟨_,rfl,rfl,hS⟩
  clear h hS
  rintro s w t X q ⟨t2,rfl,rfl,hS⟩ h hX hO
  unfold T_round_finite_b2 at h
  try dsimp only
  refine cond_s h ?_ ?_<;>intro hc h
  ·
   obtain ⟨t3,ht3,h⟩:=bnd h
   obtain ⟨z2,rfl,q3x,vt,q3r⟩:=atF ht3
   refine idx_s (qu.now (fun _ h=>h) hS) q3x vt q3r ?_;intro b4 hb4
   refine ⟨_,rd_get (qu.now (fun _ h=>h) hS) hb4 q3x,?_⟩
   obtain ⟨t4,ht4,h⟩:=bnd h
   refine wk_math_IsNaN H hS  ht4 ?_;rintro w hS
   refine ⟨_,rfl,?_⟩
   refine cond_s h ?_ ?_<;>intro hc h
   ·
    obtain ⟨t5,ht5,h⟩:=bnd h
    refine wk_math_IsInf H hS  ht5 ?_;rintro w hS
    refine ⟨_,rfl,?_⟩
    refine cond_s h ?_ ?_<;>intro hc h
    ·
     obtain rfl:=some_inj h
     have h:=congrArg some (hO _ rfl)
     obtain rfl:=some_inj h
     have h:=c1
     cases some_inj h
     exact hK _ hS
    obtain rfl:=some_inj h
    exact hX _ rfl _ _ ⟨_,rfl,rfl,hS⟩
   obtain rfl:=some_inj h
   have h:=congrArg some (hO _ rfl)
   obtain rfl:=some_inj h
   have h:=c1
   cases some_inj h
   exact hK _ hS
  obtain rfl:=some_inj h
  have h:=congrArg some (hO _ rfl)
  exact hJ1 _ _ ⟨some_inj h,rfl,hS⟩
 clear h1 hS
 rintro s w ⟨rfl,rfl,hS⟩
 have h:=c1
 clear c1
 try dsimp only
 cases some_inj h
 exact hK _ hS
theorem wk_round_none {q0 u0} (hS:Ho w0 w L)  (h:T_round_none q0=some u0) (hK:∀ (z0:Nat) (w1:World),nf z0=u0→Ho w0 w1 L→K (.float .f64 z0) w1):CallsX P N.f_round_none #[.int .i8 q0] w K:=by
 refine H.round_none q0 w _ ?_
 unfold S_round_none
 unfold T_round_none at h
 try dsimp only
 refine cond_s h ?_ ?_<;>intro hc h
 ·
  obtain ⟨t1,ht1,h⟩:=bnd h
  refine wk_math_Copysign H hS  ht1 ?_;rintro z1 w rfl hS
  refine ⟨_,rfl,?_⟩
  cases some_inj h
  exact hK _ _ rfl hS
 cases some_inj h
 exact hK _ _ rfl hS
theorem wk_round_step {q0 q1 u0} (hS:Ho w0 w L)  (h:T_round_step (nf q0) q1=some u0) (hK:∀ (z0:Nat) (w1:World),nf z0=u0→Ho w0 w1 L→K (.float .f64 z0) w1):CallsX P N.f_round_step #[.float .f64 q0,.bool q1] w K:=by
 refine H.round_step q0 q1 w _ ?_
 unfold S_round_step
 unfold T_round_step at h
 try dsimp only
 obtain ⟨t1,ht1,h⟩:=bnd h
 refine wk_math_Float64bits H hS  ht1 ?_;rintro w hS
 refine ⟨_,rfl,?_⟩
 obtain ⟨o1,h1,c1⟩:=bnd h
 refine cutM_i (fun s w=>∃ (t2:Int),t2=o1∧s=(t2,())∧Ho w0 w L) (fun J1 hJ1=>?_) ?_
 ·
  have h:=h1
  clear h1
  obtain ⟨t3,ht3,h⟩:=bnd h
  obtain rfl:=feq_s ht3
  obtain ⟨o2,h2,c2⟩:=bnd h
  refine cutM_i (fun s w=>∃ (t4:Int),t4=o2∧s=(t4,())∧Ho w0 w L) (fun J2 hJ2=>?_) ?_
  ·
   have h:=h2
   clear h2
   refine cond_s h ?_ ?_<;>intro hc h
   ·
    obtain ⟨o3,h3,c3⟩:=bnd h
    refine cutM_i (fun s w=>∃ (t5:Int),t5=o3∧s=(t5,())∧Ho w0 w L) (fun J3 hJ3=>?_) ?_
    ·
     have h:=h3
     clear h3
     refine cond_s h ?_ ?_<;>intro hc h
     ·
      exact hJ3 _ _ ⟨_,some_inj h,rfl,hS⟩
     exact hJ3 _ _ ⟨_,some_inj h,rfl,hS⟩
    clear h3 hS
    rintro s w ⟨t5,rfl,rfl,hS⟩
    have h:=c3
    clear c3
    try dsimp only
    exact hJ2 _ _ ⟨_,some_inj h,rfl,hS⟩
   obtain ⟨t6,ht6,h⟩:=bnd h
   obtain rfl:=fgt_s ht6
   obtain ⟨o4,h4,c4⟩:=bnd h
   refine cutM_i (fun s w=>∃ (t7:Int),t7=o4∧s=(t7,())∧Ho w0 w L) (fun J4 hJ4=>?_) ?_
   ·
    have h:=h4
    clear h4
    refine cond_s h ?_ ?_<;>intro hc h
    ·
     exact hJ4 _ _ ⟨_,some_inj h,rfl,hS⟩
    exact hJ4 _ _ ⟨_,some_inj h,rfl,hS⟩
   clear h4 hS
   rintro s w ⟨t7,rfl,rfl,hS⟩
   have h:=c4
   clear c4
   try dsimp only
   exact hJ2 _ _ ⟨_,some_inj h,rfl,hS⟩
  clear h2 hS
  rintro s w ⟨t4,rfl,rfl,hS⟩
  have h:=c2
  clear c2
  try dsimp only
  exact hJ1 _ _ ⟨_,some_inj h,rfl,hS⟩
 clear h1 hS
 rintro s w ⟨t2,rfl,rfl,hS⟩
 have h:=c1
 clear c1
 try dsimp only
 obtain ⟨t8,ht8,h⟩:=bnd h
 refine wk_math_Float64frombits H hS  ht8 ?_;rintro z5 w rfl hS
 refine ⟨_,rfl,?_⟩
 cases some_inj h
 exact hK _ _ rfl hS
theorem wk_round_settle {q0 q1 q2 u0} (hS:Ho w0 w L)  (h:T_round_settle (nf q0) q1 q2=some u0) (hK:∀ (z0:Nat) (w1:World),nf z0=u0→Ho w0 w1 L→K (.float .f64 z0) w1):CallsX P N.f_round_settle #[.float .f64 q0,.int .i64 q1,.int .i8 q2] w K:=by
 refine H.round_settle q0 q1 q2 w _ ?_
 unfold S_round_settle
 unfold T_round_settle at h
 try dsimp only
 obtain ⟨o1,h1,c1⟩:=bnd h
 refine cutM_i (fun s w=>∃ (t1:Int),t1=o1∧s=(t1,())∧Ho w0 w L) (fun J1 hJ1=>?_) ?_
 ·
  have h:=h1
  clear h1
  refine cond_s h ?_ ?_<;>intro hc h
  ·
   obtain ⟨t2,ht2,h⟩:=bnd h
   refine wk_math_Signbit H hS  ht2 ?_;rintro w hS
   refine ⟨_,rfl,?_⟩
   obtain ⟨o2,h2,c2⟩:=bnd h
   refine cutM_i (fun s w=>∃ (t3:Int),t3=o2∧s=(t3,())∧Ho w0 w L) (fun J2 hJ2=>?_) ?_
   ·
    have h:=h2
    clear h2
    refine cond_s h ?_ ?_<;>intro hc h
    ·
     exact hJ2 _ _ ⟨_,some_inj h,rfl,hS⟩
    exact hJ2 _ _ ⟨_,some_inj h,rfl,hS⟩
   clear h2 hS
   rintro s w ⟨t3,rfl,rfl,hS⟩
   have h:=c2
   clear c2
   try dsimp only
   exact hJ1 _ _ ⟨_,some_inj h,rfl,hS⟩
  exact hJ1 _ _ ⟨_,some_inj h,rfl,hS⟩
 clear h1 hS
 rintro s w ⟨t1,rfl,rfl,hS⟩
 have h:=c1
 clear c1
 try dsimp only
 obtain ⟨t4,ht4,h⟩:=bnd h
 refine wk_math_IsInf H hS  ht4 ?_;rintro w hS
 refine ⟨_,rfl,?_⟩
 refine cond_s h ?_ ?_<;>intro hc h
 ·
  obtain ⟨t5,ht5,h⟩:=bnd h
  obtain rfl:=fgt_s ht5
  refine cond_s h ?_ ?_<;>intro hc h
  ·
   refine cond_s h ?_ ?_<;>intro hc h
   ·
    obtain ⟨t6,ht6,h⟩:=bnd h
    obtain rfl:=flt_s ht6
    refine cond_s h ?_ ?_<;>intro hc h
    ·
     refine cond_s h ?_ ?_<;>intro hc h
     ·
      obtain ⟨t7,ht7,h⟩:=bnd h
      refine wk_math_Copysign H hS  ht7 ?_;rintro z3 w rfl hS
      refine ⟨_,rfl,?_⟩
      cases some_inj h
      exact hK _ _ rfl hS
     cases some_inj h
     exact hK _ _ rfl hS
    cases some_inj h
    exact hK _ _ rfl hS
   obtain ⟨t8,ht8,h⟩:=bnd h
   refine wk_math_Copysign H hS  ht8 ?_;rintro z4 w rfl hS
   refine ⟨_,rfl,?_⟩
   cases some_inj h
   exact hK _ _ rfl hS
  obtain ⟨t9,ht9,h⟩:=bnd h
  obtain rfl:=flt_s ht9
  refine cond_s h ?_ ?_<;>intro hc h
  ·
   refine cond_s h ?_ ?_<;>intro hc h
   ·
    obtain ⟨t10,ht10,h⟩:=bnd h
    refine wk_math_Copysign H hS  ht10 ?_;rintro z5 w rfl hS
    refine ⟨_,rfl,?_⟩
    cases some_inj h
    exact hK _ _ rfl hS
   cases some_inj h
   exact hK _ _ rfl hS
  cases some_inj h
  exact hK _ _ rfl hS
 refine cond_s h ?_ ?_<;>intro hc h
 ·
  refine cond_s h ?_ ?_<;>intro hc h
  ·
   refine cond_s h ?_ ?_<;>intro hc h
   ·
    refine cond_s h ?_ ?_<;>intro hc h
    ·
     obtain ⟨t11,ht11,h⟩:=bnd h
     refine wk_round_step H hS  ht11 ?_;rintro z6 w rfl hS
     refine ⟨_,rfl,?_⟩
     cases some_inj h
     exact hK _ _ rfl hS
    cases some_inj h
    exact hK _ _ rfl hS
   cases some_inj h
   exact hK _ _ rfl hS
  obtain ⟨t12,ht12,h⟩:=bnd h
  refine wk_round_step H hS  ht12 ?_;rintro z7 w rfl hS
  refine ⟨_,rfl,?_⟩
  cases some_inj h
  exact hK _ _ rfl hS
 refine cond_s h ?_ ?_<;>intro hc h
 ·
  refine cond_s h ?_ ?_<;>intro hc h
  ·
   obtain ⟨t13,ht13,h⟩:=bnd h
   refine wk_round_step H hS  ht13 ?_;rintro z8 w rfl hS
   refine ⟨_,rfl,?_⟩
   cases some_inj h
   exact hK _ _ rfl hS
  cases some_inj h
  exact hK _ _ rfl hS
 cases some_inj h
 exact hK _ _ rfl hS
theorem wk_round_sign {q0 u0} (hS:Ho w0 w L)  (h:T_round_sign (nf q0)=some u0) (hK:∀ w1,Ho w0 w1 L→K (.int .i64 u0) w1):CallsX P N.f_round_sign #[.float .f64 q0] w K:=by
 refine H.round_sign q0 w _ ?_
 unfold S_round_sign
 unfold T_round_sign at h
 try dsimp only
 obtain ⟨t1,ht1,h⟩:=bnd h
 obtain rfl:=fgt_s ht1
 refine cond_s h ?_ ?_<;>intro hc h
 ·
  cases some_inj h
  exact hK _ hS
 obtain ⟨t2,ht2,h⟩:=bnd h
 obtain rfl:=flt_s ht2
 refine cond_s h ?_ ?_<;>intro hc h
 ·
  cases some_inj h
  exact hK _ hS
 cases some_inj h
 exact hK _ hS
theorem wk_round_Add {q0 q1 q2 u0} (hS:Ho w0 w L)  (h:T_round_Add (nf q0) (nf q1) q2=some u0) (hK:∀ (z0:Nat) (w1:World),nf z0=u0→Ho w0 w1 L→K (.float .f64 z0) w1):CallsX P N.f_round_Add #[.float .f64 q0,.float .f64 q1,.int .i8 q2] w K:=by
 refine H.round_Add q0 q1 q2 w _ ?_
 unfold S_round_Add
 unfold T_round_Add at h
 try dsimp only
 obtain ⟨t1,ht1,h⟩:=bnd h
 refine wk_round_way H hS  ht1 ?_;rintro w hS
 refine ⟨_,rfl,?_⟩
 obtain ⟨t2,ht2,h⟩:=bnd h
 refine fadd_s ht2 hS ?_;rintro z1 w rfl hS
 obtain ⟨t3,ht3,h⟩:=bnd h
 obtain rfl:(List.map nf ([q0,q1]:List Nat))=t3:=some_inj ht3
 refine lit_s (ks:=[q0,q1]) (enc:=(Value.float .f64)) (m:=2) hS rfl rfl ?_;intro r2 w hS
 obtain ⟨t4,ht4,h⟩:=bnd h
 refine wk_round_finite H hS (Ent.sl mp0) ht4 ?_;rintro w hS
 refine ⟨_,rfl,?_⟩
 refine cond_s h ?_ ?_<;>intro hc h
 ·
  cases some_inj h
  exact hK _ _ rfl (hS.pick (A:=[_]) [] rfl)
 obtain ⟨o3,h3,c3⟩:=bnd h
 refine cutM_i (fun s w=>∃ (t5:Bool),t5=o3∧s=(t5,())∧Ho w0 w L) (fun J3 hJ3=>?_) ?_
 ·
  have h:=h3
  clear h3
  obtain ⟨t6,ht6,h⟩:=bnd h
  obtain rfl:=feq_s ht6
  refine cond_s h ?_ ?_<;>intro hc h
  ·
   obtain ⟨t7,ht7,h⟩:=bnd h
   obtain rfl:=fne_s ht7
   refine cond_s h ?_ ?_<;>intro hc h
   ·
    obtain ⟨t8,ht8,h⟩:=bnd h
    obtain rfl:=feq_s ht8
    refine cond_s h ?_ ?_<;>intro hc h
    ·
     obtain ⟨t9,ht9,h⟩:=bnd h
     refine wk_math_Signbit H hS  ht9 ?_;rintro w hS
     refine ⟨_,rfl,?_⟩
     obtain ⟨t10,ht10,h⟩:=bnd h
     refine wk_math_Signbit H hS  ht10 ?_;rintro w hS
     refine ⟨_,rfl,?_⟩
     obtain rfl:=some_inj h
     exact hJ3 _ _ ⟨_,rfl,rfl,(hS.pick (A:=[_]) [] rfl)⟩
    obtain rfl:=some_inj h
    exact hJ3 _ _ ⟨_,rfl,rfl,(hS.pick (A:=[_]) [] rfl)⟩
   obtain rfl:=some_inj h
   exact hJ3 _ _ ⟨_,rfl,rfl,(hS.pick (A:=[_]) [] rfl)⟩
  obtain ⟨t11,ht11,h⟩:=bnd h
  obtain rfl:=feq_s ht11
  refine cond_s h ?_ ?_<;>intro hc h
  ·
   obtain ⟨t12,ht12,h⟩:=bnd h
   refine wk_math_Signbit H hS  ht12 ?_;rintro w hS
   refine ⟨_,rfl,?_⟩
   obtain ⟨t13,ht13,h⟩:=bnd h
   refine wk_math_Signbit H hS  ht13 ?_;rintro w hS
   refine ⟨_,rfl,?_⟩
   obtain rfl:=some_inj h
   exact hJ3 _ _ ⟨_,rfl,rfl,(hS.pick (A:=[_]) [] rfl)⟩
  obtain rfl:=some_inj h
  exact hJ3 _ _ ⟨_,rfl,rfl,(hS.pick (A:=[_]) [] rfl)⟩
 clear h3 hS
 rintro s w ⟨t5,rfl,rfl,hS⟩
 have h:=c3
 clear c3
 try dsimp only
 refine cond_s h ?_ ?_<;>intro hc h
 ·
  obtain ⟨t14,ht14,h⟩:=bnd h
  refine wk_round_none H hS  ht14 ?_;rintro z4 w rfl hS
  refine ⟨_,rfl,?_⟩
  cases some_inj h
  exact hK _ _ rfl hS
 obtain ⟨t15,ht15,h⟩:=bnd h
 obtain rfl:=feq_s ht15
 refine cond_s h ?_ ?_<;>intro hc h
 ·
  cases some_inj h
  exact hK _ _ rfl hS
 obtain ⟨t16,ht16,h⟩:=bnd h
 refine wk_math_IsInf H hS  ht16 ?_;rintro w hS
 refine ⟨_,rfl,?_⟩
 refine cond_s h ?_ ?_<;>intro hc h
 ·
  obtain ⟨t17,ht17,h⟩:=bnd h
  refine wk_round_settle H hS  ht17 ?_;rintro z5 w rfl hS
  refine ⟨_,rfl,?_⟩
  cases some_inj h
  exact hK _ _ rfl hS
 obtain ⟨t18,ht18,h⟩:=bnd h
 refine wk_math_Abs H hS  ht18 ?_;rintro z6 w rfl hS
 refine ⟨_,rfl,?_⟩
 obtain ⟨t19,ht19,h⟩:=bnd h
 refine wk_math_Abs H hS  ht19 ?_;rintro z7 w rfl hS
 refine ⟨_,rfl,?_⟩
 obtain ⟨t20,ht20,h⟩:=bnd h
 obtain rfl:=flt_s ht20
 obtain ⟨o10,h10,c10⟩:=bnd h
 refine cutM_i (fun s w=>∃ (z8:Nat) (z9:Nat),((nf z8),(nf z9))=o10∧s=(z8,z9,())∧Ho w0 w L) (fun J10 hJ10=>?_) ?_
 ·
  have h:=h10
  clear h10
  refine cond_s h ?_ ?_<;>intro hc h
  ·
   exact hJ10 _ _ ⟨_,_,some_inj h,rfl,hS⟩
  exact hJ10 _ _ ⟨_,_,some_inj h,rfl,hS⟩
 clear h10 hS
 rintro s w ⟨z8,z9,rfl,rfl,hS⟩
 have h:=c10
 clear c10
 try dsimp only
 obtain ⟨t23,ht23,h⟩:=bnd h
 refine fsub_s ht23 hS ?_;rintro z11 w rfl hS
 obtain ⟨t24,ht24,h⟩:=bnd h
 refine fsub_s ht24 hS ?_;rintro z12 w rfl hS
 obtain ⟨t25,ht25,h⟩:=bnd h
 refine wk_round_sign H hS  ht25 ?_;rintro w hS
 refine ⟨_,rfl,?_⟩
 obtain ⟨t26,ht26,h⟩:=bnd h
 refine wk_round_settle H hS  ht26 ?_;rintro z13 w rfl hS
 refine ⟨_,rfl,?_⟩
 cases some_inj h
 exact hK _ _ rfl hS
theorem wk_vector_Norm {q0 qh qn vu u0} (hS:Ho w0 w L) (qu:EF L vu q0 qh qn) (h:T_vector_Norm (List.map nf vu)=some u0) (hK:∀ (z0:Nat) (w1:World),nf z0=u0→Ho w0 w1 L→K (.float .f64 z0) w1):CallsX P N.f_vector_Norm #[.slice q0 qh qn] w K:=by
 refine H.vector_Norm q0 qh qn w _ ?_
 unfold S_vector_Norm
 unfold T_vector_Norm at h
 try dsimp only
 obtain ⟨t1,ht1,h⟩:=bnd h
 obtain rfl:=lenF ht1 (qu.now (fun _ h=>h) hS)
 obtain ⟨o2,h2,c2⟩:=bnd h
 refine cutM_i (fun s w=>∃ (z1:Nat),(nf z1)=o2∧s=(z1,())∧Ho w0 w L) (fun J2 hJ2=>?_) ?_
 ·
  have h:=h2
  clear h2
  refine iter_sim (fun s w t=>∃ (z3:Nat) (t4:Int),((nf z3),t4)=t∧s=(z3,t4,())∧Ho w0 w L) ?_ h ⟨_,_,rfl,rfl,hS⟩
  clear h hS
  rintro s w t X q ⟨z3,t4,rfl,rfl,hS⟩ h hX hO
  unfold T_vector_Norm_b2 at h
  try dsimp only
  refine cond_s h ?_ ?_<;>intro hc h
  ·
   obtain ⟨t5,ht5,h⟩:=bnd h
   obtain ⟨z4,rfl,q5x,jc,q5r⟩:=atF ht5
   refine idx_s (qu.now (fun _ h=>h) hS) q5x jc q5r ?_;intro b6 hb6
   refine ⟨_,rd_get (qu.now (fun _ h=>h) hS) hb6 q5x,?_⟩
   obtain ⟨t6,ht6,h⟩:=bnd h
   refine wk_math_Abs H hS  ht6 ?_;rintro z7 w rfl hS
   refine ⟨_,rfl,?_⟩
   obtain ⟨t7,ht7,h⟩:=bnd h
   refine wk_round_Add H hS  ht7 ?_;rintro z8 w rfl hS
   refine ⟨_,rfl,?_⟩
   obtain rfl:=some_inj h
   exact hX _ rfl _ _ ⟨_,_,rfl,rfl,hS⟩
  obtain rfl:=some_inj h
  have h:=congrArg some (hO _ rfl)
  exact hJ2 _ _ ⟨_,some_inj h,rfl,hS⟩
 clear h2 hS
 rintro s w ⟨z1,rfl,rfl,hS⟩
 have h:=c2
 clear c2
 try dsimp only
 cases some_inj h
 exact hK _ _ rfl hS
end Go.Eng
