/-
 Each function comes to what its function of plain Lean says, printed by a program of the session; with contracts written by hand at the head. No condition.
-/
import Derived.Test.YtgbilchfljlbeaaDoorTp
import Derived.Test.YtgbilchfljlbeaaDoorSh
import Derived.Test.YtgbilchfljlbeaaDoorBgW
import Derived.Test.YtgbilchfljlbeaaDoorBitC
set_option linter.all false
set_option maxRecDepth 100000
set_option maxHeartbeats 4000000
namespace Go.Eng
open Go
open Go.IntKind (i64 u64 u32 u8)
section
variable {N:Nums} {P:Program} (H:AllOk N P)
include H
theorem bits_c (x:Nat) (w:World):CallsX P N.f_math_Float64bits #[.float .f64 x] w fun v w'=>v = .int .u64 x∧St w w' []:=
 H.math_Float64bits x w _ ⟨rfl,St.refl _⟩
theorem isNaN_c (x:Nat) (w:World):CallsX P N.f_math_IsNaN #[.float .f64 x] w fun v w'=>v = .bool (isNaN x)∧St w w' []:=by
 refine H.math_IsNaN x w _ ?_
 refine ⟨?_,St.refl w⟩
 rw [feq_self];simp
theorem vsame_c {w:World} {a b:OA} {n c m d:Nat} {l k:List Nat} (ha:Reals w a n c l) (hb:Reals w b m d k) (hn:n≤4294967296) :
  CallsX P N.f_vector_Same #[.slice a n c,.slice b m d] w fun v w'=>v = .bool (l.map nf==k.map nf)∧St w w' []:=by
 refine H.vector_Same a n c b m d w _ ?_
 unfold S_vector_Same
 have la:=ha.len
 have lb:=hb.len
 refine cond_i (fun h=>?_) (fun h=>?_)
 ·
  refine ⟨?_,St.refl _⟩
  congr 1
  have h':n≠m:=by simp at h;omega
  simp only [Bool.false_eq,beq_eq_false_iff_ne,ne_eq]
  intro e
  have:=congrArg List.length e
  simp at this;omega
 ·
  have hnm:n=m:=by simp at h;omega
  subst hnm
  refine cutM_i (fun s w'=>l.map nf=k.map nf∧St w w' []) (fun J hJ=>?_) (fun s w' ⟨h,hS⟩=>⟨by simp [h],hS⟩)
  refine loopM_i (fun s w'=>∃ i:Nat,s.1=(i:Int)∧i≤n∧(∀ j,j<i→nf (l.getD j 0)=nf (k.getD j 0))∧St w w' []) (fun s=>n-s.1.toNat) ⟨0,rfl,by omega,fun j h=>by omega,St.refl w⟩ ?_
  rintro ⟨s,u⟩ w X ⟨i,hi,hin,hall,hS⟩ hX
  dsimp only at hi;subst hi
  refine cond_i (fun hb1=>?_) (fun hb1=>?_)
  ·
   have hlt:i<n:=by simpa using hb1
   have hadv:nf (l.getD i 0)=nf (k.getD i 0)→∀ w',St _ w' []→X (i64.wrap ((i:Int)+1),u) w':=fun he w' hS'=>by
    refine hX _ _ ⟨i+1,wrS hlt (by omega),by omega,fun j hj=>?_,hS'⟩ (by dsimp only;rw [wrS hlt (by omega)];omega)
    by_cases e:j=i
    ·
     subst e;exact he
    ·
     exact hall j (by omega)
   have hbad:nf (l.getD i 0)≠nf (k.getD i 0)→(Value.bool false)=Value.bool (l.map nf==k.map nf):=fun he=>by
    congr 1
    simp only [Bool.false_eq,beq_eq_false_iff_ne,ne_eq]
    intro e
    apply he
    have:=congrArg (fun q=>q.getD i 0) e
    simpa [List.getD_eq_getElem?_getD,show i<l.length by omega,show i<k.length by omega] using this
   obtain ⟨xa,rfl,hxa⟩:=ha.at_ i (by omega)
   obtain ⟨xb,rfl,hxb⟩:=hb.at_ i (by omega)
   dsimp only
   rw [Int.toNat_natCast,Nat.mul_one]
   refine ⟨by omega,by omega,optM_mk rfl ⟨_,hS.cell hxa,by omega,by omega,optM_mk rfl ⟨_,hS.cell hxb,?_⟩⟩⟩
   (try simp only [List.cons_append,List.nil_append,List.append_assoc] at hS);(repeat (first | (with_reducible (refine ⟨_,hS.cell ‹_›,?_⟩)) | (with_reducible (refine ⟨_,_,_,hS.cell ‹_›,?_⟩)) | (with_reducible (refine ⟨hS.cell ‹_›,?_⟩)) | ((with_reducible first | apply ldI hS | apply ldS hS | apply hldS hS | apply hldI hS | apply ldF hS | apply ldP hS | apply ldB hS | apply hldF hS);(case ha=>exact rfl);(case he=>(repeat (first | with_reducible exact List.mem_cons_self | with_reducible refine List.mem_cons_of_mem _ ?_)));(case hc=>exact rfl)) | (guard_target=newM _ _ _ _;refine newM_i hS ?_;clear hS;intro _ w hS) | (guard_target=drM _ _;refine drM_i hS ?_;clear hS;intro w hS) | (guard_target=stM _ _ _ _;(first | refine st0 hS rfl rfl ?_ | refine st1 hS rfl rfl ?_ | refine st2 hS rfl rfl ?_ | refine st3 hS rfl rfl ?_ | refine st4 hS rfl rfl ?_ | refine st5 hS rfl rfl ?_ | refine st6 hS rfl rfl ?_ | refine st7 hS rfl rfl ?_);clear hS;intro w hS) | (guard_target=optM (some _) _;refine optM_mk rfl ?_)))
   refine (bits_c H _ _).mono ?_
   rintro _ w1 ⟨rfl,h1⟩
   replace hS:=hS.next h1
   rw [List.nil_append] at hS
   refine ⟨_,rfl,hS.cell hxb,?_⟩
   (try simp only [List.cons_append,List.nil_append,List.append_assoc] at hS);(repeat (first | (with_reducible (refine ⟨_,hS.cell ‹_›,?_⟩)) | (with_reducible (refine ⟨_,_,_,hS.cell ‹_›,?_⟩)) | (with_reducible (refine ⟨hS.cell ‹_›,?_⟩)) | ((with_reducible first | apply ldI hS | apply ldS hS | apply hldS hS | apply hldI hS | apply ldF hS | apply ldP hS | apply ldB hS | apply hldF hS);(case ha=>exact rfl);(case he=>(repeat (first | with_reducible exact List.mem_cons_self | with_reducible refine List.mem_cons_of_mem _ ?_)));(case hc=>exact rfl)) | (guard_target=newM _ _ _ _;refine newM_i hS ?_;clear hS;intro _ w hS) | (guard_target=drM _ _;refine drM_i hS ?_;clear hS;intro w hS) | (guard_target=stM _ _ _ _;(first | refine st0 hS rfl rfl ?_ | refine st1 hS rfl rfl ?_ | refine st2 hS rfl rfl ?_ | refine st3 hS rfl rfl ?_ | refine st4 hS rfl rfl ?_ | refine st5 hS rfl rfl ?_ | refine st6 hS rfl rfl ?_ | refine st7 hS rfl rfl ?_);clear hS;intro w hS) | (guard_target=optM (some _) _;refine optM_mk rfl ?_)))
   refine (bits_c H _ _).mono ?_
   rintro _ w2 ⟨rfl,h2⟩
   replace hS:=hS.next h2
   rw [List.nil_append] at hS
   refine ⟨_,rfl,cond_i (fun hb2=>?_) (fun hb2=>?_)⟩
   ·
    have hne:l.getD i 0≠k.getD i 0:=fun e=>by rw [e] at hb2;simp at hb2
    (try simp only [List.cons_append,List.nil_append,List.append_assoc] at hS);(repeat (first | (with_reducible (refine ⟨_,hS.cell ‹_›,?_⟩)) | (with_reducible (refine ⟨_,_,_,hS.cell ‹_›,?_⟩)) | (with_reducible (refine ⟨hS.cell ‹_›,?_⟩)) | ((with_reducible first | apply ldI hS | apply ldS hS | apply hldS hS | apply hldI hS | apply ldF hS | apply ldP hS | apply ldB hS | apply hldF hS);(case ha=>exact rfl);(case he=>(repeat (first | with_reducible exact List.mem_cons_self | with_reducible refine List.mem_cons_of_mem _ ?_)));(case hc=>exact rfl)) | (guard_target=newM _ _ _ _;refine newM_i hS ?_;clear hS;intro _ w hS) | (guard_target=drM _ _;refine drM_i hS ?_;clear hS;intro w hS) | (guard_target=stM _ _ _ _;(first | refine st0 hS rfl rfl ?_ | refine st1 hS rfl rfl ?_ | refine st2 hS rfl rfl ?_ | refine st3 hS rfl rfl ?_ | refine st4 hS rfl rfl ?_ | refine st5 hS rfl rfl ?_ | refine st6 hS rfl rfl ?_ | refine st7 hS rfl rfl ?_);clear hS;intro w hS) | (guard_target=optM (some _) _;refine optM_mk rfl ?_)))
    refine (isNaN_c H _ _).mono ?_
    rintro _ w3 ⟨rfl,h3⟩
    replace hS:=hS.next h3
    rw [List.nil_append] at hS
    refine ⟨_,rfl,cond_i (fun hn1=>?_) (fun hn1=>?_)⟩
    ·
     refine ⟨by omega,by omega,optM_mk rfl ⟨_,hS.cell hxb,?_⟩⟩
     (try simp only [List.cons_append,List.nil_append,List.append_assoc] at hS);(repeat (first | (with_reducible (refine ⟨_,hS.cell ‹_›,?_⟩)) | (with_reducible (refine ⟨_,_,_,hS.cell ‹_›,?_⟩)) | (with_reducible (refine ⟨hS.cell ‹_›,?_⟩)) | ((with_reducible first | apply ldI hS | apply ldS hS | apply hldS hS | apply hldI hS | apply ldF hS | apply ldP hS | apply ldB hS | apply hldF hS);(case ha=>exact rfl);(case he=>(repeat (first | with_reducible exact List.mem_cons_self | with_reducible refine List.mem_cons_of_mem _ ?_)));(case hc=>exact rfl)) | (guard_target=newM _ _ _ _;refine newM_i hS ?_;clear hS;intro _ w hS) | (guard_target=drM _ _;refine drM_i hS ?_;clear hS;intro w hS) | (guard_target=stM _ _ _ _;(first | refine st0 hS rfl rfl ?_ | refine st1 hS rfl rfl ?_ | refine st2 hS rfl rfl ?_ | refine st3 hS rfl rfl ?_ | refine st4 hS rfl rfl ?_ | refine st5 hS rfl rfl ?_ | refine st6 hS rfl rfl ?_ | refine st7 hS rfl rfl ?_);clear hS;intro w hS) | (guard_target=optM (some _) _;refine optM_mk rfl ?_)))
     refine (isNaN_c H _ _).mono ?_
     rintro _ w4 ⟨rfl,h4⟩
     replace hS:=hS.next h4
     rw [List.nil_append] at hS
     refine ⟨_,rfl,?_⟩
     (try simp only [List.cons_append,List.nil_append,List.append_assoc] at hS);(repeat (first | (with_reducible (refine ⟨_,hS.cell ‹_›,?_⟩)) | (with_reducible (refine ⟨_,_,_,hS.cell ‹_›,?_⟩)) | (with_reducible (refine ⟨hS.cell ‹_›,?_⟩)) | ((with_reducible first | apply ldI hS | apply ldS hS | apply hldS hS | apply hldI hS | apply ldF hS | apply ldP hS | apply ldB hS | apply hldF hS);(case ha=>exact rfl);(case he=>(repeat (first | with_reducible exact List.mem_cons_self | with_reducible refine List.mem_cons_of_mem _ ?_)));(case hc=>exact rfl)) | (guard_target=newM _ _ _ _;refine newM_i hS ?_;clear hS;intro _ w hS) | (guard_target=drM _ _;refine drM_i hS ?_;clear hS;intro w hS) | (guard_target=stM _ _ _ _;(first | refine st0 hS rfl rfl ?_ | refine st1 hS rfl rfl ?_ | refine st2 hS rfl rfl ?_ | refine st3 hS rfl rfl ?_ | refine st4 hS rfl rfl ?_ | refine st5 hS rfl rfl ?_ | refine st6 hS rfl rfl ?_ | refine st7 hS rfl rfl ?_);clear hS;intro w hS) | (guard_target=optM (some _) _;refine optM_mk rfl ?_)))
     refine cond_i (fun hn2=>?_) (fun hn2=>?_)
     ·
      simp only [Bool.not_eq_true'] at hn2
      exact ⟨hbad (fun e=>by rcases nf_eq_iff.1 e with e | ⟨_,e⟩;exact hne e;rw [e] at hn2;cases hn2),hS⟩
     ·
      simp only [Bool.not_eq_false'] at hn2
      exact hadv (nf_eq_iff.2 (.inr ⟨hn1,hn2⟩)) _ hS
    ·
     (try simp only [List.cons_append,List.nil_append,List.append_assoc] at hS);(repeat (first | (with_reducible (refine ⟨_,hS.cell ‹_›,?_⟩)) | (with_reducible (refine ⟨_,_,_,hS.cell ‹_›,?_⟩)) | (with_reducible (refine ⟨hS.cell ‹_›,?_⟩)) | ((with_reducible first | apply ldI hS | apply ldS hS | apply hldS hS | apply hldI hS | apply ldF hS | apply ldP hS | apply ldB hS | apply hldF hS);(case ha=>exact rfl);(case he=>(repeat (first | with_reducible exact List.mem_cons_self | with_reducible refine List.mem_cons_of_mem _ ?_)));(case hc=>exact rfl)) | (guard_target=newM _ _ _ _;refine newM_i hS ?_;clear hS;intro _ w hS) | (guard_target=drM _ _;refine drM_i hS ?_;clear hS;intro w hS) | (guard_target=stM _ _ _ _;(first | refine st0 hS rfl rfl ?_ | refine st1 hS rfl rfl ?_ | refine st2 hS rfl rfl ?_ | refine st3 hS rfl rfl ?_ | refine st4 hS rfl rfl ?_ | refine st5 hS rfl rfl ?_ | refine st6 hS rfl rfl ?_ | refine st7 hS rfl rfl ?_);clear hS;intro w hS) | (guard_target=optM (some _) _;refine optM_mk rfl ?_)))
     exact ⟨hbad (fun e=>by rcases nf_eq_iff.1 e with e | ⟨e,_⟩;exact hne e;rw [e] at hn1;cases hn1),hS⟩
   ·
    have he:l.getD i 0=k.getD i 0:=by
     have h5:(((l.getD i 0:Nat):Int) != ((k.getD i 0:Nat):Int))=false:=hb2
     have h6:((l.getD i 0:Nat):Int)=((k.getD i 0:Nat):Int):=by
      rcases Decidable.em (((l.getD i 0:Nat):Int)=((k.getD i 0:Nat):Int)) with h | h
      ·
       exact h
      ·
       rw [bne_iff_ne.2 h] at h5;cases h5
     exact Int.ofNat.inj h6
    (try simp only [List.cons_append,List.nil_append,List.append_assoc] at hS);(repeat (first | (with_reducible (refine ⟨_,hS.cell ‹_›,?_⟩)) | (with_reducible (refine ⟨_,_,_,hS.cell ‹_›,?_⟩)) | (with_reducible (refine ⟨hS.cell ‹_›,?_⟩)) | ((with_reducible first | apply ldI hS | apply ldS hS | apply hldS hS | apply hldI hS | apply ldF hS | apply ldP hS | apply ldB hS | apply hldF hS);(case ha=>exact rfl);(case he=>(repeat (first | with_reducible exact List.mem_cons_self | with_reducible refine List.mem_cons_of_mem _ ?_)));(case hc=>exact rfl)) | (guard_target=newM _ _ _ _;refine newM_i hS ?_;clear hS;intro _ w hS) | (guard_target=drM _ _;refine drM_i hS ?_;clear hS;intro w hS) | (guard_target=stM _ _ _ _;(first | refine st0 hS rfl rfl ?_ | refine st1 hS rfl rfl ?_ | refine st2 hS rfl rfl ?_ | refine st3 hS rfl rfl ?_ | refine st4 hS rfl rfl ?_ | refine st5 hS rfl rfl ?_ | refine st6 hS rfl rfl ?_ | refine st7 hS rfl rfl ?_);clear hS;intro w hS) | (guard_target=optM (some _) _;refine optM_mk rfl ?_)))
    exact hadv (by rw [he]) _ hS
  ·
   have hge:n≤i:=by simpa using hb1
   refine hJ _ _ ⟨?_,hS⟩
   apply List.ext_getElem
   ·
    simp;omega
   ·
    intro j h1 h2
    simp at h1 h2
    have:=hall j (by omega)
    simpa [List.getD_eq_getElem?_getD,h1,h2] using this
theorem abs_c (x:Nat) (w:World):CallsX P N.f_math_Abs #[.float .f64 x] w fun v w'=>v = .float .f64 (magF x)∧St w w' []:=by
 refine H.math_Abs x w _ ?_
 unfold S_math_Abs
 refine (bits_c H x w).mono ?_
 rintro _ w1 ⟨rfl,h1⟩
 refine ⟨_,rfl,?_⟩
 refine H.math_Float64frombits _ w1 _ ?_
 rw [abs_bits]
 exact ⟨_,rfl,rfl,h1⟩
theorem sameFloat_c (x y:Nat) (w:World):CallsX P N.f_k_SameFloat #[.float .f64 x,.float .f64 y] w fun v w'=>v = .bool (nf x==nf y)∧St w w' []:=by
 refine H.k_SameFloat x y w _ ?_
 unfold S_k_SameFloat
 refine (bits_c H x w).mono ?_
 rintro _ w1 ⟨rfl,h1⟩
 refine ⟨_,rfl,?_⟩
 refine (bits_c H y w1).mono ?_
 rintro _ w2 ⟨rfl,h2⟩
 refine ⟨_,rfl,?_⟩
 have hS:=h1.next h2
 have hxy:((x:Int)==(y:Int))=(x==y):=by rw [Bool.eq_iff_iff];simp;omega
 rw [same_bits,hxy,feq_self,feq_self]
 cases x==y<;>cases isNaN x<;>exact ⟨by simp,hS⟩
theorem signbit_c (x:Nat) (w:World):CallsX P N.f_math_Signbit #[.float .f64 x] w fun v w'=>v = .bool (negF x)∧St w w' []:=by
 refine H.math_Signbit x w _ ?_
 unfold S_math_Signbit
 refine (bits_c H x w).mono ?_
 rintro _ w1 ⟨rfl,h1⟩
 exact ⟨_,rfl,by rw [sign_bits],h1⟩
theorem copysign_c (x y:Nat) (w:World):CallsX P N.f_math_Copysign #[.float .f64 x,.float .f64 y] w fun v w'=>v = .float .f64 ((if negF y then 9223372036854775808 else 0)+magF x)∧St w w' []:=by
 refine H.math_Copysign x y w _ ?_
 unfold S_math_Copysign
 refine (bits_c H x w).mono ?_
 rintro _ w1 ⟨rfl,h1⟩
 refine ⟨_,rfl,?_⟩
 refine (bits_c H y w1).mono ?_
 rintro _ w2 ⟨rfl,h2⟩
 refine ⟨_,rfl,?_⟩
 refine H.math_Float64frombits _ w2 _ ?_
 rw [copy_bits]
 exact ⟨_,rfl,rfl,h1.next h2⟩
end
variable {N:Nums} {P:Program} (H:AllOk N P) {w0 w:World} {L:List It} {K:KV}
include H
theorem wk_matrix_fits {q0 u0} (hS:Ho w0 w L)  (h:T_matrix_fits q0=some u0) (hK:∀ w1,Ho w0 w1 L→K (.bool u0) w1):CallsX P N.f_matrix_fits #[.int .i64 q0] w K:=by
 refine H.matrix_fits q0 w _ ?_
 unfold S_matrix_fits
 unfold T_matrix_fits at h
 try dsimp only
 refine cond_s h ?_ ?_<;>intro hc h
 ·
  cases some_inj h
  exact hK _ hS
 cases some_inj h
 exact hK _ hS
theorem wk_matrix_Right {qa qb qe qf qg qp u0} (hS:Ho w0 w L) (qn:EF L qp qe qf qg) (h:T_matrix_Right qa qb (List.map nf qp)=some u0) (hK:∀ w1,Ho w0 w1 L→K (.bool u0) w1):CallsX P N.f_matrix_Right #[.agg #[.int .i64 qa,.int .i64 qb,.slice qe qf qg]] w K:=by
 refine H.matrix_Right qa qb qe qf qg w _ ?_
 unfold S_matrix_Right
 unfold T_matrix_Right at h
 try dsimp only
 refine newM_s hS ?_;intro r1 w hS
 refine ⟨_,hS.cel mp0 rfl,?_⟩
 obtain ⟨t1,ht1,h⟩:=bnd h
 refine wk_matrix_fits H hS  ht1 ?_;rintro w hS
 refine ⟨_,rfl,?_⟩
 refine cond_s h ?_ ?_<;>intro hc h
 ·
  refine ⟨_,hS.cel mp0 rfl,?_⟩
  obtain ⟨t2,ht2,h⟩:=bnd h
  refine wk_matrix_fits H hS  ht2 ?_;rintro w hS
  refine ⟨_,rfl,?_⟩
  refine cond_s h ?_ ?_<;>intro hc h
  ·
   refine ⟨_,_,_,hS.cel mp0 rfl,?_⟩
   obtain ⟨t3,ht3,h⟩:=bnd h
   obtain rfl:=lenF ht3 ((qn.mono tl1).now (fun _ h=>h) hS)
   refine ⟨_,hS.cel mp0 rfl,_,hS.cel mp0 rfl,?_⟩
   cases some_inj h
   exact hK _ (hS.pick (A:=[_]) [] rfl)
  cases some_inj h
  exact hK _ (hS.pick (A:=[_]) [] rfl)
 cases some_inj h
 exact hK _ (hS.pick (A:=[_]) [] rfl)
theorem wk_matrix_Transpose_1 {q0 q1 r_2 vg vh gc yw yx yy u0} (hS:Ho w0 w L) (eq2:Ent L (cl r_2 [.int .i64 vg,.int .i64 vh,.slice gc yw yx] N.t_Matrix).A) (yz:EF L yy gc yw yx) (h:T_matrix_Transpose_1 q0 q1 vg vh (List.map nf yy)=some u0) (hK:∀ (z0:Nat) (w1:World),nf z0=u0→Ho w0 w1 L→K (.float .f64 z0) w1):CallsX P N.f_matrix_Transpose_1 #[.int .i64 q0,.int .i64 q1,.pointer (some ⟨r_2,0,none⟩)] w K:=by
 refine H.matrix_Transpose_1 q0 q1 (some ⟨r_2,0,none⟩) w _ ?_
 unfold S_matrix_Transpose_1
 unfold T_matrix_Transpose_1 at h
 try dsimp only
 refine optM_s ?_
 refine ⟨_,_,_,(eq2.cel (fun _ h=>h) hS rfl),?_⟩
 refine optM_s ?_
 refine ⟨_,(eq2.cel (fun _ h=>h) hS rfl),?_⟩
 obtain ⟨t1,ht1,h⟩:=bnd h
 obtain ⟨z1,rfl,q2x,vo,q2r⟩:=atF ht1
 refine idx_s (yz.now (fun _ h=>h) hS) q2x vo q2r ?_;intro b3 hb3
 refine ⟨_,rd_get (yz.now (fun _ h=>h) hS) hb3 q2x,?_⟩
 cases some_inj h
 exact hK _ _ rfl hS
theorem wk_matrix_laid {q0 q1} {q2:Value} {f2:Int→Int→Option Nat} {u0 u1 u2} (hS:Ho w0 w L) (hf2:∀ (v0:Int) (v1:Int) (w:World) (L1:List It) (r1:Nat) (K:KV),(∀ e,e∈L→e∈L1)→f2 v0 v1=some r1→Ho w0 w L1→(∀ (z:Nat) (w1:World),nf z=r1→Ho w0 w1 L1→K (.float .f64 z) w1)→fnM q2 fun g gp gq=>CallsX P g (gp.toList++(([.int .i64 v0,.int .i64 v1]:List Value)++gq.toList)).toArray w K) (h:T_matrix_laid q0 q1 f2=some (u0,u1,u2)) (hK:∀ (a2:OA) (n2 c2:Nat) (rws2:List Nat) (w1:World),List.map nf rws2=u2→Ho w0 w1 ((sl a2 n2 c2 (List.map (Value.float .f64) rws2) N.t_float64)::L)→K (.agg #[.int .i64 u0,.int .i64 u1,.slice a2 n2 c2]) w1):CallsX P N.f_matrix_laid #[.int .i64 q0,.int .i64 q1,q2] w K:=by
 refine H.matrix_laid q0 q1 q2 w _ ?_
 unfold S_matrix_laid
 unfold T_matrix_laid at h
 try dsimp only
 refine newM_s hS ?_;intro r1 w hS
 obtain ⟨t1,ht1,h⟩:=bnd h
 obtain ⟨rfl,kt1⟩:=mkF ht1
 refine mk_s (enc:=(Value.float .f64)) hS kt1 rfl ?_;clear hS kt1;intro r2 w hS
 refine newM_s hS ?_;intro r3 w hS
 refine stc_s hS rfl rfl ?_;intro w hS
 refine stc_s hS rfl rfl ?_;intro w hS
 refine stc_s hS rfl rfl ?_;intro w hS
 obtain ⟨o5,h5,c5⟩:=bnd h
 refine cutM_i (fun s w=>∃ (yt:List Nat),(List.map nf yt)=o5∧s=(())∧Ho w0 w ((cl r3 [.int .i64 q0,.int .i64 q1,.slice (some ⟨r2,0,none⟩) (((i64.wrap (q0*q1))).toNat) (((i64.wrap (q0*q1))).toNat)] N.t_Matrix)::(sl (some ⟨r2,0,none⟩) (((i64.wrap (q0*q1))).toNat) (((i64.wrap (q0*q1))).toNat) (List.map (Value.float .f64) yt) N.t_float64)::(cl r1 [.int .i64 0,.int .i64 0,.slice none 0 0] N.t_Matrix)::L)) (fun J5 hJ5=>?_) ?_
 ·
  have h:=h5
  clear h5
  refine iter_sim (fun s w t=>∃ (t3:Int) (vw:List Nat),(t3,(List.map nf vw))=t∧s=(t3,())∧Ho w0 w ((cl r3 [.int .i64 q0,.int .i64 q1,.slice (some ⟨r2,0,none⟩) (((i64.wrap (q0*q1))).toNat) (((i64.wrap (q0*q1))).toNat)] N.t_Matrix)::(sl (some ⟨r2,0,none⟩) (((i64.wrap (q0*q1))).toNat) (((i64.wrap (q0*q1))).toNat) (List.map (Value.float .f64) vw) N.t_float64)::(cl r1 [.int .i64 0,.int .i64 0,.slice none 0 0] N.t_Matrix)::L)) ?_ h ⟨_,_,rfl,rfl,hS⟩
  clear h hS
  rintro s w t X q ⟨t3,vw,rfl,rfl,hS⟩ h hX hO
  unfold T_matrix_laid_b7 at h
  try dsimp only
  refine cond_s h ?_ ?_<;>intro hc h
  ·
   obtain ⟨o8,h8,c8⟩:=bnd h
   refine cutM_i (fun s w=>∃ (jg:List Nat),(List.map nf jg)=o8∧s=(())∧Ho w0 w ((cl r3 [.int .i64 q0,.int .i64 q1,.slice (some ⟨r2,0,none⟩) (((i64.wrap (q0*q1))).toNat) (((i64.wrap (q0*q1))).toNat)] N.t_Matrix)::(sl (some ⟨r2,0,none⟩) (((i64.wrap (q0*q1))).toNat) (((i64.wrap (q0*q1))).toNat) (List.map (Value.float .f64) jg) N.t_float64)::(cl r1 [.int .i64 0,.int .i64 0,.slice none 0 0] N.t_Matrix)::L)) (fun J8 hJ8=>?_) ?_
   ·
    have h:=h8
    clear h8
    refine iter_sim (fun s w t=>∃ (t6:Int) (ja:List Nat),(t6,(List.map nf ja))=t∧s=(t6,())∧Ho w0 w ((cl r3 [.int .i64 q0,.int .i64 q1,.slice (some ⟨r2,0,none⟩) (((i64.wrap (q0*q1))).toNat) (((i64.wrap (q0*q1))).toNat)] N.t_Matrix)::(sl (some ⟨r2,0,none⟩) (((i64.wrap (q0*q1))).toNat) (((i64.wrap (q0*q1))).toNat) (List.map (Value.float .f64) ja) N.t_float64)::(cl r1 [.int .i64 0,.int .i64 0,.slice none 0 0] N.t_Matrix)::L)) ?_ h ⟨_,_,rfl,rfl,hS⟩
    clear h hS
    rintro s w t X q ⟨t6,ja,rfl,rfl,hS⟩ h hX hO
    unfold T_matrix_laid_b9 at h
    try dsimp only
    refine cond_s h ?_ ?_<;>intro hc h
    ·
     refine ⟨_,_,_,hS.cel mp0 rfl,?_⟩
     refine drM_s hS ?_;intro w hS
     obtain ⟨t8,ht8,h⟩:=bnd h
     refine hf2 _ _ _ _ _ _ tl3 ht8 hS ?_;rintro z10 w rfl hS
     refine ⟨_,rfl,?_⟩
     refine ⟨(hS.cel mp0 rfl),?_⟩
     obtain ⟨t9,ht9,h⟩:=bnd h
     obtain ⟨z11,rfl,q12x,yd,q12r⟩:=atF ht9
     refine idx_s ((Ent.sl mp1).now (fun _ h=>h) hS) q12x yd q12r ?_;intro b13 hb13
     refine drM_s hS ?_;intro w hS
     replace hS:=ro1 hS
     obtain ⟨t10,ht10,h⟩:=bnd h
     obtain rfl:=setF ht10
     refine sto_s hS hb13 q12r ?_;intro w hS
     refine drM_s hS ?_;intro w hS
     obtain rfl:=some_inj h
     exact hX _ rfl _ _ ⟨_,_,rfl,rfl,(hS.pick (A:=[_,_,_]) [1,0,0] rfl)⟩
    obtain rfl:=some_inj h
    have h:=congrArg some (hO _ rfl)
    exact hJ8 _ _ ⟨_,some_inj h,rfl,hS⟩
   clear h8 hS
   rintro s w ⟨jg,rfl,rfl,hS⟩
   have h:=c8
   clear c8
   try dsimp only
   obtain rfl:=some_inj h
   exact hX _ rfl _ _ ⟨_,_,rfl,rfl,hS⟩
  obtain rfl:=some_inj h
  have h:=congrArg some (hO _ rfl)
  exact hJ5 _ _ ⟨_,some_inj h,rfl,hS⟩
 clear h5 hS
 rintro s w ⟨yt,rfl,rfl,hS⟩
 have h:=c5
 clear c5
 try dsimp only
 refine ⟨_,hS.cel mp0 rfl,_,hS.cel mp0 rfl,_,_,_,hS.cel mp0 rfl,?_⟩
 replace hS:=ro2 hS
 refine stc_s hS rfl rfl ?_;intro w hS
 refine stc_s hS rfl rfl ?_;intro w hS
 refine stc_s hS rfl rfl ?_;intro w hS
 refine ⟨_,hS.cel mp0 rfl,_,hS.cel mp0 rfl,_,_,_,hS.cel mp0 rfl,?_⟩
 cases some_inj h
 exact hK _ _ _ _ _ rfl (hS.pick (A:=[_,_,_]) [2] rfl)
theorem wk_matrix_Transpose {qa qb qe qf qg qp u0 u1 u2 u3} (hS:Ho w0 w L) (qn:EF L qp qe qf qg) (hx:T_matrix_Transpose qa qb (List.map nf qp)=some (u0,u1,u2,u3)) (hK:∀ (a2:OA) (n2 c2:Nat) (rws2:List Nat) (w1:World),List.map nf rws2=u2→Ho w0 w1 ((sl a2 n2 c2 (List.map (Value.float .f64) rws2) N.t_float64)::L)→K (.tuple #[.agg #[.int .i64 u0,.int .i64 u1,.slice a2 n2 c2],.int .i64 u3]) w1):CallsX P N.f_matrix_Transpose #[.agg #[.int .i64 qa,.int .i64 qb,.slice qe qf qg]] w K:=by
 refine H.matrix_Transpose qa qb qe qf qg w _ ?_
 unfold S_matrix_Transpose
 unfold T_matrix_Transpose at hx
 have h:=hx
 clear hx
 try dsimp only
 refine newM_s hS ?_;intro r1 w hS
 refine newM_s hS ?_;intro r2 w hS
 refine ⟨_,hS.cel mp1 rfl,_,hS.cel mp1 rfl,_,_,_,hS.cel mp1 rfl,?_⟩
 obtain ⟨t1,ht1,h⟩:=bnd h
 refine wk_matrix_Right H hS (qn.mono tl2) ht1 ?_;rintro w hS
 refine ⟨_,rfl,?_⟩
 refine cond_s h ?_ ?_<;>intro hc h
 ·
  refine stc_s hS rfl rfl ?_;intro w hS
  refine stc_s hS rfl rfl ?_;intro w hS
  refine stc_s hS rfl rfl ?_;intro w hS
  refine ⟨_,hS.cel mp0 rfl,_,hS.cel mp0 rfl,_,_,_,hS.cel mp0 rfl,?_⟩
  replace hS:=hS.none (α:=Nat) (enc:=(Value.float .f64)) (t:=N.t_float64)
  cases some_inj h
  exact hK _ _ _ _ _ rfl (hS.pick (A:=[_,_,_]) [0] rfl)
 refine ⟨_,hS.cel mp1 rfl,_,hS.cel mp1 rfl,?_⟩
 obtain ⟨⟨t2,t3,t4⟩,ho2,h⟩:=bnd h
 refine wk_matrix_laid H hS (by intro v0 v1 w L1 r1 K hL hx hS hK;exact wk_matrix_Transpose_1 H hS ((Ent.of mp1).mono hL) ((qn.mono tl2).mono hL) hx hK) ho2 ?_;clear hS ho2;rintro a3 m3 c3 yu w rfl hS
 refine ⟨_,_,_,_,_,rfl,?_⟩
 replace hS:=ro1 hS
 refine stc_s hS rfl rfl ?_;intro w hS
 refine stc_s hS rfl rfl ?_;intro w hS
 refine stc_s hS rfl rfl ?_;intro w hS
 refine ⟨_,hS.cel mp0 rfl,_,hS.cel mp0 rfl,_,_,_,hS.cel mp0 rfl,?_⟩
 cases some_inj h
 exact hK _ _ _ _ _ rfl (hS.pick (A:=[_,_,_]) [1] rfl)
theorem wk_math_Float64bits {q0 u0} (hS:Ho w0 w L)  (hx:T_math_Float64bits (nf q0)=some u0) (hK:∀ w1,Ho w0 w1 L→K (.int .u64 u0) w1):CallsX P N.f_math_Float64bits #[.float .f64 q0] w K:=by
 unfold T_math_Float64bits at hx
 have hn:isNaN q0=false:=by
  cases e:isNaN q0 with
  | false=>rfl
  | true=>rw [isNaN_nf,e] at hx;cases hx
 rw [isNaN_nf,hn,nf_of_not hn] at hx
 have hx:=some_inj hx
 subst hx
 exact H.math_Float64bits q0 w _ (hK _ hS)
theorem wk_math_IsNaN {q0 u0} (hS:Ho w0 w L)  (h:T_math_IsNaN (nf q0)=some u0) (hK:∀ w1,Ho w0 w1 L→K (.bool u0) w1):CallsX P N.f_math_IsNaN #[.float .f64 q0] w K:=by
 refine H.math_IsNaN q0 w _ ?_
 unfold S_math_IsNaN
 unfold T_math_IsNaN at h
 try dsimp only
 obtain ⟨t1,ht1,h⟩:=bnd h
 obtain rfl:=fne_s ht1
 cases some_inj h
 exact hK _ hS
theorem wk_vector_Same {q0 qm qs yi q1 qr qw gd u0} (hS:Ho w0 w L) (qv:EF L yi q0 qm qs) (qy:EF L gd q1 qr qw) (hx:T_vector_Same (List.map nf yi) (List.map nf gd)=some u0) (hK:∀ w1,Ho w0 w1 L→K (.bool u0) w1):CallsX P N.f_vector_Same #[.slice q0 qm qs,.slice q1 qr qw] w K:=by
 unfold T_vector_Same at hx
 have hd:(List.map nf yi).length≤4294967296:=by
  rcases Nat.lt_or_ge 4294967296 (List.map nf yi).length with h | h
  ·
   rw [decide_eq_false (by omega)] at hx;cases hx
  exact h
 rw [decide_eq_true hd] at hx
 have hx:=some_inj hx
 subst hx
 have r0:=(qv.now (fun _ h=>h) hS).reals
 refine (vsame_c H r0 (qy.now (fun _ h=>h) hS).reals (by have:=r0.len;simp at hd;omega)).mono ?_
 rintro _ w1 ⟨rfl,h1⟩
 exact hK _ (hS.next h1)
theorem wk_matrix_Same {qa qb qe qf qg qp qk ql qo qt qu vk u0} (hS:Ho w0 w L) (qn:EF L qp qe qf qg) (vp:EF L vk qo qt qu) (h:T_matrix_Same qa qb (List.map nf qp) qk ql (List.map nf vk)=some u0) (hK:∀ w1,Ho w0 w1 L→K (.bool u0) w1):CallsX P N.f_matrix_Same #[.agg #[.int .i64 qa,.int .i64 qb,.slice qe qf qg],.agg #[.int .i64 qk,.int .i64 ql,.slice qo qt qu]] w K:=by
 refine H.matrix_Same qa qb qe qf qg qk ql qo qt qu w _ ?_
 unfold S_matrix_Same
 unfold T_matrix_Same at h
 try dsimp only
 refine newM_s hS ?_;intro r1 w hS
 refine newM_s hS ?_;intro r2 w hS
 refine ⟨_,hS.cel mp1 rfl,_,hS.cel mp0 rfl,?_⟩
 refine cond_s h ?_ ?_<;>intro hc h
 ·
  refine ⟨_,hS.cel mp1 rfl,_,hS.cel mp0 rfl,?_⟩
  refine cond_s h ?_ ?_<;>intro hc h
  ·
   refine ⟨_,_,_,hS.cel mp1 rfl,_,_,_,hS.cel mp0 rfl,?_⟩
   obtain ⟨t1,ht1,h⟩:=bnd h
   refine wk_vector_Same H hS (qn.mono tl2) (vp.mono tl2) ht1 ?_;rintro w hS
   refine ⟨_,rfl,?_⟩
   cases some_inj h
   exact hK _ (hS.pick (A:=[_,_]) [] rfl)
  cases some_inj h
  exact hK _ (hS.pick (A:=[_,_]) [] rfl)
 cases some_inj h
 exact hK _ (hS.pick (A:=[_,_]) [] rfl)
theorem wk_matrix_Symmetric {qa qb qe qf qg qp u0} (hS:Ho w0 w L) (qn:EF L qp qe qf qg) (h:T_matrix_Symmetric qa qb (List.map nf qp)=some u0) (hK:∀ w1,Ho w0 w1 L→K (.bool u0) w1):CallsX P N.f_matrix_Symmetric #[.agg #[.int .i64 qa,.int .i64 qb,.slice qe qf qg]] w K:=by
 refine H.matrix_Symmetric qa qb qe qf qg w _ ?_
 unfold S_matrix_Symmetric
 unfold T_matrix_Symmetric at h
 try dsimp only
 refine newM_s hS ?_;intro r1 w hS
 refine ⟨_,hS.cel mp0 rfl,_,hS.cel mp0 rfl,_,_,_,hS.cel mp0 rfl,?_⟩
 obtain ⟨⟨t1,t2,t3,t4⟩,ho1,h⟩:=bnd h
 refine wk_matrix_Transpose H hS (qn.mono tl1) ho1 ?_;clear hS ho1;rintro a2 m2 c2 ju w rfl hS
 refine ⟨_,_,_,_,_,_,rfl,?_⟩
 refine newM_s hS ?_;intro r3 w hS
 refine stc_s hS rfl rfl ?_;intro w hS
 refine stc_s hS rfl rfl ?_;intro w hS
 refine stc_s hS rfl rfl ?_;intro w hS
 refine cond_s h ?_ ?_<;>intro hc h
 ·
  refine ⟨_,hS.cel mp0 rfl,_,hS.cel mp0 rfl,_,_,_,hS.cel mp0 rfl,_,hS.cel mp2 rfl,_,hS.cel mp2 rfl,_,_,_,hS.cel mp2 rfl,?_⟩
  obtain ⟨t5,ht5,h⟩:=bnd h
  refine wk_matrix_Same H hS (Ent.sl mp1) (qn.mono tl3) ht5 ?_;rintro w hS
  refine ⟨_,rfl,?_⟩
  cases some_inj h
  exact hK _ (hS.pick (A:=[_,_,_]) [] rfl)
 cases some_inj h
 exact hK _ (hS.pick (A:=[_,_,_]) [] rfl)
theorem wk_math_Float64frombits {q0 u0} (hS:Ho w0 w L)  (hx:T_math_Float64frombits q0=some u0) (hK:∀ (z0:Nat) (w1:World),nf z0=u0→Ho w0 w1 L→K (.float .f64 z0) w1):CallsX P N.f_math_Float64frombits #[.int .u64 q0] w K:=by
 unfold T_math_Float64frombits at hx
 have hx:=some_inj hx
 exact H.math_Float64frombits q0 w _ (hK _ _ hx hS)
theorem wk_math_Abs {q0 u0} (hS:Ho w0 w L)  (hx:T_math_Abs (nf q0)=some u0) (hK:∀ (z0:Nat) (w1:World),nf z0=u0→Ho w0 w1 L→K (.float .f64 z0) w1):CallsX P N.f_math_Abs #[.float .f64 q0] w K:=by
 unfold T_math_Abs at hx
 have hx:=some_inj hx
 refine (abs_c H q0 w).mono ?_
 rintro _ w1 ⟨rfl,h1⟩
 exact hK _ _ ((nf_magF q0).symm.trans hx) (hS.next h1)
theorem wk_math_IsInf {q0 q1 u0} (hS:Ho w0 w L)  (h:T_math_IsInf (nf q0) q1=some u0) (hK:∀ w1,Ho w0 w1 L→K (.bool u0) w1):CallsX P N.f_math_IsInf #[.float .f64 q0,.int .i64 q1] w K:=by
 refine H.math_IsInf q0 q1 w _ ?_
 unfold S_math_IsInf
 unfold T_math_IsInf at h
 try dsimp only
 obtain ⟨o2,h2,c2⟩:=bnd h
 refine cutM_i (fun s w=>∃ (z1:Nat),(nf z1)=o2∧s=(z1,())∧Ho w0 w L) (fun J2 hJ2=>?_) ?_
 ·
  have h:=h2
  clear h2
  refine cond_s h ?_ ?_<;>intro hc h
  ·
   obtain ⟨t2,ht2,h⟩:=bnd h
   refine wk_math_Abs H hS  ht2 ?_;rintro z3 w rfl hS
   refine ⟨_,rfl,?_⟩
   exact hJ2 _ _ ⟨_,some_inj h,rfl,hS⟩
  obtain ⟨o5,h5,c5⟩:=bnd h
  refine cutM_i (fun s w=>∃ (z4:Nat),(nf z4)=o5∧s=(z4,())∧Ho w0 w L) (fun J5 hJ5=>?_) ?_
  ·
   have h:=h5
   clear h5
   refine cond_s h ?_ ?_<;>intro hc h
   ·
    obtain ⟨t4,ht4,h⟩:=bnd h
    obtain rfl:=fneg_s ht4
    exact hJ5 _ _ ⟨_,some_inj h,rfl,hS⟩
   exact hJ5 _ _ ⟨_,some_inj h,rfl,hS⟩
  clear h5 hS
  rintro s w ⟨z4,rfl,rfl,hS⟩
  have h:=c5
  clear c5
  try dsimp only
  exact hJ2 _ _ ⟨_,some_inj h,rfl,hS⟩
 clear h2 hS
 rintro s w ⟨z1,rfl,rfl,hS⟩
 have h:=c2
 clear c2
 try dsimp only
 obtain ⟨t5,ht5,h⟩:=bnd h
 obtain rfl:=fgt_s ht5
 cases some_inj h
 exact hK _ hS
theorem wk_lower_finite {q0 u0} (hS:Ho w0 w L)  (h:T_lower_finite (nf q0)=some u0) (hK:∀ w1,Ho w0 w1 L→K (.bool u0) w1):CallsX P N.f_lower_finite #[.float .f64 q0] w K:=by
 refine H.lower_finite q0 w _ ?_
 unfold S_lower_finite
 unfold T_lower_finite at h
 try dsimp only
 obtain ⟨t1,ht1,h⟩:=bnd h
 refine wk_math_IsNaN H hS  ht1 ?_;rintro w hS
 refine ⟨_,rfl,?_⟩
 refine cond_s h ?_ ?_<;>intro hc h
 ·
  obtain ⟨t2,ht2,h⟩:=bnd h
  refine wk_math_IsInf H hS  ht2 ?_;rintro w hS
  refine ⟨_,rfl,?_⟩
  cases some_inj h
  exact hK _ hS
 cases some_inj h
 exact hK _ hS
theorem wk_lower_row {q0 qm qs yi q1 u0a u0b} (hS:Ho w0 w L) (qv:EF L yi q0 qm qs) (h:T_lower_row (List.map nf yi) q1=some (u0a,u0b)) (hK:∀ w1,Ho w0 w1 L→K (.slice (slBase q0 u0a.toNat u0b.toNat 1) (u0b.toNat-u0a.toNat) (u0b.toNat-u0a.toNat)) w1):CallsX P N.f_lower_row #[.slice q0 qm qs,.int .i64 q1] w K:=by
 refine H.lower_row q0 qm qs q1 w _ ?_
 unfold S_lower_row
 unfold T_lower_row at h
 try dsimp only
 refine ⟨by decide,?_⟩
 obtain ⟨t1,ht1,h⟩:=bnd h
 obtain ⟨rfl,gw,gx,bc⟩:=subF ht1
 have bf:=(qv.now (fun _ h=>h) hS).hiCap bc
 refine ⟨Int.le_trans gw gx,bf,Int.le_trans gw gx,Int.le_refl _,gw,gx,?_⟩
 cases some_inj h
 exact hK _ hS
theorem wk_lower_Factor {qa qb qe qf qg qp u0 u1 u2 u3 u4} (hS:Ho w0 w L) (qn:EF L qp qe qf qg) (h:T_lower_Factor qa qb (List.map nf qp)=some (u0,u1,u2,u3,u4)) (hK:∀ (a1:OA) (n1 c1:Nat) (rws1:List Nat) (a2:OA) (n2 c2:Nat) (rws2:List Nat) (w1:World),List.map nf rws1=u1→List.map nf rws2=u2→Ho w0 w1 ((sl a1 n1 c1 (List.map (Value.float .f64) rws1) N.t_float64)::(sl a2 n2 c2 (List.map (Value.float .f64) rws2) N.t_float64)::L)→K (.tuple #[.agg #[.int .i64 u0,.slice a1 n1 c1,.slice a2 n2 c2],.int .i64 u3,.int .i64 u4]) w1):CallsX P N.f_lower_Factor #[.agg #[.int .i64 qa,.int .i64 qb,.slice qe qf qg]] w K:=by
 refine H.lower_Factor qa qb qe qf qg w _ ?_
 unfold S_lower_Factor
 unfold T_lower_Factor at h
 try dsimp only
 refine newM_s hS ?_;intro r1 w hS
 refine newM_s hS ?_;intro r2 w hS
 refine ⟨_,hS.cel mp1 rfl,_,hS.cel mp1 rfl,_,_,_,hS.cel mp1 rfl,?_⟩
 obtain ⟨t1,ht1,h⟩:=bnd h
 refine wk_matrix_Symmetric H hS (qn.mono tl2) ht1 ?_;rintro w hS
 refine ⟨_,rfl,?_⟩
 refine cond_s h ?_ ?_<;>intro hc h
 ·
  refine ⟨_,hS.cel mp0 rfl,_,_,_,hS.cel mp0 rfl,_,_,_,hS.cel mp0 rfl,?_⟩
  refine stc_s hS rfl rfl ?_;intro w hS
  refine stc_s hS rfl rfl ?_;intro w hS
  refine stc_s hS rfl rfl ?_;intro w hS
  refine ⟨_,hS.cel mp0 rfl,_,_,_,hS.cel mp0 rfl,_,_,_,hS.cel mp0 rfl,?_⟩
  replace hS:=hS.none (α:=Nat) (enc:=(Value.float .f64)) (t:=N.t_float64)
  replace hS:=hS.none (α:=Nat) (enc:=(Value.float .f64)) (t:=N.t_float64)
  cases some_inj h
  exact hK _ _ _ _ _ _ _ _ _ rfl rfl (hS.pick (A:=[_,_,_,_]) [1,0] rfl)
 refine ⟨_,_,_,hS.cel mp1 rfl,?_⟩
 obtain ⟨t2,ht2,h⟩:=bnd h
 obtain rfl:=lenF ht2 ((qn.mono tl2).now (fun _ h=>h) hS)
 obtain ⟨o3,h3,c3⟩:=bnd h
 refine cutM_i (fun s w=>∃ (t3:Int) (t4:Int),.inl (t3,t4)=o3∧s=(t3,t4,())∧Ho w0 w ((cl r2 [.int .i64 0,.slice none 0 0,.slice none 0 0] N.t_Factor)::(cl r1 [.int .i64 qa,.int .i64 qb,.slice qe qf qg] N.t_Matrix)::L)) (fun J3 hJ3=>?_) ?_
 ·
  have h:=h3
  clear h3
  refine iter_sim (fun s w t=>∃ (t5:Int) (t6:Int) (t7:Int),(t5,t6,t7)=t∧s=(t5,t6,t7,())∧Ho w0 w ((cl r2 [.int .i64 0,.slice none 0 0,.slice none 0 0] N.t_Factor)::(cl r1 [.int .i64 qa,.int .i64 qb,.slice qe qf qg] N.t_Matrix)::L)) ?_ h ⟨_,_,_,rfl,rfl,hS⟩
  clear h hS
  rintro s w t X q ⟨t5,t6,t7,rfl,rfl,hS⟩ h hX hO
  unfold T_lower_Factor_b2 at h
  try dsimp only
  refine cond_s h ?_ ?_<;>intro hc h
  ·
   obtain ⟨t8,ht8,h⟩:=bnd h
   obtain ⟨z4,rfl,q5x,yq,q5r⟩:=atF ht8
   refine idx_s ((qn.mono tl2).now (fun _ h=>h) hS) q5x yq q5r ?_;intro b6 hb6
   refine ⟨_,rd_get ((qn.mono tl2).now (fun _ h=>h) hS) hb6 q5x,?_⟩
   obtain ⟨t9,ht9,h⟩:=bnd h
   refine wk_lower_finite H hS  ht9 ?_;rintro w hS
   refine ⟨_,rfl,?_⟩
   refine cond_s h ?_ ?_<;>intro hc h
   ·
    refine ⟨_,hS.cel mp0 rfl,_,_,_,hS.cel mp0 rfl,_,_,_,hS.cel mp0 rfl,?_⟩
    refine stc_s hS rfl rfl ?_;intro w hS
    refine stc_s hS rfl rfl ?_;intro w hS
    refine stc_s hS rfl rfl ?_;intro w hS
    obtain rfl:=some_inj h
    have h:=congrArg some (hO _ rfl)
    obtain rfl:=some_inj h
    have h:=c3
    refine ⟨_,hS.cel mp0 rfl,_,_,_,hS.cel mp0 rfl,_,_,_,hS.cel mp0 rfl,?_⟩
    replace hS:=hS.none (α:=Nat) (enc:=(Value.float .f64)) (t:=N.t_float64)
    replace hS:=hS.none (α:=Nat) (enc:=(Value.float .f64)) (t:=N.t_float64)
    cases some_inj h
    exact hK _ _ _ _ _ _ _ _ _ rfl rfl (hS.pick (A:=[_,_,_,_]) [1,0] rfl)
   obtain rfl:=some_inj h
   exact hX _ rfl _ _ ⟨_,_,_,rfl,rfl,hS⟩
  obtain rfl:=some_inj h
  have h:=congrArg some (hO _ rfl)
  exact hJ3 _ _ ⟨_,_,some_inj h,rfl,hS⟩
 clear h3 hS
 rintro s w ⟨t3,t4,rfl,rfl,hS⟩
 have h:=c3
 clear c3
 try dsimp only
 refine ⟨_,hS.cel mp1 rfl,?_⟩
 obtain ⟨o11,h11,c11⟩:=bnd h
 refine cutM_i (fun s w=>∃ (r7:Nat) (ye:List Nat) (r9:Nat) (yv:List Nat),((List.map nf ye),(List.map nf yv))=o11∧s=(((some ⟨r9,0,none⟩),((i64.wrap ((i64.wrap (qa*(i64.wrap (qa-1)))).tdiv 2))).toNat,((i64.wrap ((i64.wrap (qa*(i64.wrap (qa-1)))).tdiv 2))).toNat),((some ⟨r7,0,none⟩),(qa).toNat,(qa).toNat),())∧Ho w0 w ((sl (some ⟨r7,0,none⟩) ((qa).toNat) ((qa).toNat) (List.map (Value.float .f64) ye) N.t_float64)::(sl (some ⟨r9,0,none⟩) (((i64.wrap ((i64.wrap (qa*(i64.wrap (qa-1)))).tdiv 2))).toNat) (((i64.wrap ((i64.wrap (qa*(i64.wrap (qa-1)))).tdiv 2))).toNat) (List.map (Value.float .f64) yv) N.t_float64)::(cl r2 [.int .i64 0,.slice none 0 0,.slice none 0 0] N.t_Factor)::(cl r1 [.int .i64 qa,.int .i64 qb,.slice qe qf qg] N.t_Matrix)::L)) (fun J11 hJ11=>?_) ?_
 ·
  have h:=h11
  clear h11
  refine ⟨by decide,?_⟩
  obtain ⟨t12,ht12,h⟩:=bnd h
  obtain ⟨t13,ht13,h⟩:=bnd h
  refine ⟨?_,?_⟩
  ·
   refine drM_s hS ?_;intro w hS
   skip
   skip
   obtain ⟨rfl,kt12⟩:=mkF ht12
   refine mk_s (enc:=(Value.float .f64)) hS kt12 rfl ?_;clear hS kt12;intro r12 w hS
   refine drM_s hS ?_;intro w hS
   skip
   skip
   obtain ⟨rfl,kt13⟩:=mkF ht13
   refine mk_s (enc:=(Value.float .f64)) hS kt13 rfl ?_;clear hS kt13;intro r13 w hS
   refine drM_s hS ?_;intro w hS
   exact hJ11 _ _ ⟨_,_,_,_,some_inj h,rfl,hS⟩
  refine drM_s hS ?_;intro w hS
  skip
  skip
  obtain ⟨rfl,kt13⟩:=mkF ht13
  refine mk_s (enc:=(Value.float .f64)) hS kt13 rfl ?_;clear hS kt13;intro r14 w hS
  refine drM_s hS ?_;intro w hS
  skip
  skip
  obtain ⟨rfl,kt12⟩:=mkF ht12
  refine mk_s (enc:=(Value.float .f64)) hS kt12 rfl ?_;clear hS kt12;intro r15 w hS
  refine drM_s hS ?_;intro w hS
  obtain rfl:=some_inj h
  exact hJ11 _ _ ⟨_,_,_,_,rfl,rfl,(hS.pick (A:=[_,_,_,_]) [1,0,0,0] rfl)⟩
 clear h11 hS
 rintro s w ⟨r7,ye,r9,yv,rfl,rfl,hS⟩
 have h:=c11
 clear c11
 try dsimp only
 obtain ⟨t14,ht14,h⟩:=bnd h
 obtain ⟨rfl,kt14⟩:=mkF ht14
 refine mk_s (enc:=(Value.float .f64)) hS kt14 rfl ?_;clear hS kt14;intro r16 w hS
 obtain ⟨o19,h19,c19⟩:=bnd h
 refine cutM_i (fun s w=>∃ (t15:Int) (t16:Int) (jh:List Nat) (ji:List Nat),(t15,t16,(List.map nf jh),(List.map nf ji))=o19∧s=(t15,t16,())∧Ho w0 w ((sl (some ⟨r7,0,none⟩) ((qa).toNat) ((qa).toNat) (List.map (Value.float .f64) jh) N.t_float64)::(sl (some ⟨r9,0,none⟩) (((i64.wrap ((i64.wrap (qa*(i64.wrap (qa-1)))).tdiv 2))).toNat) (((i64.wrap ((i64.wrap (qa*(i64.wrap (qa-1)))).tdiv 2))).toNat) (List.map (Value.float .f64) ji) N.t_float64)::(cl r2 [.int .i64 0,.slice none 0 0,.slice none 0 0] N.t_Factor)::L)) (fun J19 hJ19=>?_) ?_
 ·
  have h:=h19
  clear h19
  refine iter_sim (fun s w t=>∃ (t19:Int) (t20:Int) (t21:Int) (jj:List Nat) (vn:List Nat) (vv:List Nat),(t19,t20,t21,(List.map nf jj),(List.map nf vn),(List.map nf vv))=t∧s=(t19,t20,t21,())∧Ho w0 w ((sl (some ⟨r16,0,none⟩) ((qa).toNat) ((qa).toNat) (List.map (Value.float .f64) jj) N.t_float64)::(sl (some ⟨r7,0,none⟩) ((qa).toNat) ((qa).toNat) (List.map (Value.float .f64) vn) N.t_float64)::(sl (some ⟨r9,0,none⟩) (((i64.wrap ((i64.wrap (qa*(i64.wrap (qa-1)))).tdiv 2))).toNat) (((i64.wrap ((i64.wrap (qa*(i64.wrap (qa-1)))).tdiv 2))).toNat) (List.map (Value.float .f64) vv) N.t_float64)::(cl r2 [.int .i64 0,.slice none 0 0,.slice none 0 0] N.t_Factor)::(cl r1 [.int .i64 qa,.int .i64 qb,.slice qe qf qg] N.t_Matrix)::L)) ?_ h ⟨_,_,_,_,_,_,rfl,rfl,hS⟩
  clear h hS
  rintro s w t X q ⟨t19,t20,t21,jj,vn,vv,rfl,rfl,hS⟩ h hX hO
  unfold T_lower_Factor_b29 at h
  try dsimp only
  refine cond_s h ?_ ?_<;>intro hc h
  ·
   obtain ⟨⟨t25,t26⟩,ho25,h⟩:=bnd h
   refine wk_lower_row H hS (Ent.sl mp2) ho25 ?_;clear hS ho25;rintro w hS
   refine ⟨_,_,_,rfl,?_⟩
   obtain ⟨t27,ht27,h⟩:=bnd h
   obtain ⟨rfl,yk,yl,vr⟩:=subF ht27
   have ym:=((Ent.sl mp2).now (fun _ h=>h) hS).hiCap vr
   refine ⟨_,_,_,hS.cel mp4 rfl,?_⟩
   obtain ⟨t28,ht28,h⟩:=bnd h
   obtain ⟨z25,rfl,q26x,jk,q26r⟩:=atF ht28
   refine idx_s ((qn.mono tl5).now (fun _ h=>h) hS) q26x jk q26r ?_;intro b27 hb27
   refine ⟨_,rd_get ((qn.mono tl5).now (fun _ h=>h) hS) hb27 q26x,?_⟩
   obtain ⟨t29,ht29,h⟩:=bnd h
   obtain rfl:=lenF ht29 ((Ent.part3 (Ent.sl mp2) yk yl vr (Int.le_refl _) ym).now (fun _ h=>h) hS)
   obtain ⟨o30,h30,c30⟩:=bnd h
   refine cutM_i (fun s w=>∃ (z28:Nat) (vq:List Nat),((nf z28),(List.map nf vq))=o30∧s=(z28,())∧Ho w0 w ((sl (some ⟨r16,0,none⟩) ((qa).toNat) ((qa).toNat) (List.map (Value.float .f64) vq) N.t_float64)::(sl (some ⟨r7,0,none⟩) ((qa).toNat) ((qa).toNat) (List.map (Value.float .f64) vn) N.t_float64)::(sl (some ⟨r9,0,none⟩) (((i64.wrap ((i64.wrap (qa*(i64.wrap (qa-1)))).tdiv 2))).toNat) (((i64.wrap ((i64.wrap (qa*(i64.wrap (qa-1)))).tdiv 2))).toNat) (List.map (Value.float .f64) vv) N.t_float64)::(cl r2 [.int .i64 0,.slice none 0 0,.slice none 0 0] N.t_Factor)::(cl r1 [.int .i64 qa,.int .i64 qb,.slice qe qf qg] N.t_Matrix)::L)) (fun J30 hJ30=>?_) ?_
   ·
    have h:=h30
    clear h30
    refine iter_sim (fun s w t=>∃ (z31:Nat) (t33:Int) (jl:List Nat),((nf z31),t33,(List.map nf jl))=t∧s=(z31,t33,())∧Ho w0 w ((sl (some ⟨r16,0,none⟩) ((qa).toNat) ((qa).toNat) (List.map (Value.float .f64) jl) N.t_float64)::(sl (some ⟨r7,0,none⟩) ((qa).toNat) ((qa).toNat) (List.map (Value.float .f64) vn) N.t_float64)::(sl (some ⟨r9,0,none⟩) (((i64.wrap ((i64.wrap (qa*(i64.wrap (qa-1)))).tdiv 2))).toNat) (((i64.wrap ((i64.wrap (qa*(i64.wrap (qa-1)))).tdiv 2))).toNat) (List.map (Value.float .f64) vv) N.t_float64)::(cl r2 [.int .i64 0,.slice none 0 0,.slice none 0 0] N.t_Factor)::(cl r1 [.int .i64 qa,.int .i64 qb,.slice qe qf qg] N.t_Matrix)::L)) ?_ h ⟨_,_,_,rfl,rfl,hS⟩
    clear h hS
    rintro s w t X q ⟨z31,t33,jl,rfl,rfl,hS⟩ h hX hO
    unfold T_lower_Factor_b31 at h
    try dsimp only
    refine cond_s h ?_ ?_<;>intro hc h
    ·
     obtain ⟨t35,ht35,h⟩:=bnd h
     obtain ⟨z33,rfl,q34x,gy,q34r⟩:=atF ht35
     refine idx_s ((Ent.part3 (Ent.sl mp2) yk yl vr (Int.le_refl _) ym).now (fun _ h=>h) hS) q34x gy q34r ?_;intro b35 hb35
     refine ⟨_,rd_get ((Ent.part3 (Ent.sl mp2) yk yl vr (Int.le_refl _) ym).now (fun _ h=>h) hS) hb35 q34x,?_⟩
     obtain ⟨t36,ht36,h⟩:=bnd h
     obtain ⟨z36,rfl,q37x,gz,q37r⟩:=atF ht36
     refine idx_s ((Ent.sl mp1).now (fun _ h=>h) hS) q37x gz q37r ?_;intro b38 hb38
     refine ⟨_,rd_get ((Ent.sl mp1).now (fun _ h=>h) hS) hb38 q37x,?_⟩
     obtain ⟨t37,ht37,h⟩:=bnd h
     refine fmul_s ht37 hS ?_;rintro z39 w rfl hS
     obtain ⟨t38,ht38,h⟩:=bnd h
     obtain ⟨z40,rfl,q41x,za,q41r⟩:=atF ht38
     refine idy_s ((Ent.sl mp0).now (fun _ h=>h) hS) q41x za q41r ?_
     obtain ⟨t39,ht39,h⟩:=bnd h
     obtain rfl:=setF ht39
     refine sto_s hS rfl q41r ?_;intro w hS
     obtain ⟨t40,ht40,h⟩:=bnd h
     obtain ⟨z43,rfl,q44x,zb,q44r⟩:=atF ht40
     refine idy_s ((Ent.sl mp0).now (fun _ h=>h) hS) q44x zb q44r ?_
     refine ⟨_,rd_get ((Ent.sl mp0).now (fun _ h=>h) hS) rfl q44x,?_⟩
     obtain ⟨t41,ht41,h⟩:=bnd h
     refine fmul_s ht41 hS ?_;rintro z46 w rfl hS
     obtain ⟨t42,ht42,h⟩:=bnd h
     refine fsub_s ht42 hS ?_;rintro z47 w rfl hS
     obtain rfl:=some_inj h
     exact hX _ rfl _ _ ⟨_,_,_,rfl,rfl,hS⟩
    obtain rfl:=some_inj h
    have h:=congrArg some (hO _ rfl)
    exact hJ30 _ _ ⟨_,_,some_inj h,rfl,hS⟩
   clear h30 hS
   rintro s w ⟨z28,vq,rfl,rfl,hS⟩
   have h:=c30
   clear c30
   try dsimp only
   obtain ⟨o48,h48,c48⟩:=bnd h
   refine cutM_i (fun s w=>∃ (t43:Bool),t43=o48∧s=(t43,())∧Ho w0 w ((sl (some ⟨r16,0,none⟩) ((qa).toNat) ((qa).toNat) (List.map (Value.float .f64) vq) N.t_float64)::(sl (some ⟨r7,0,none⟩) ((qa).toNat) ((qa).toNat) (List.map (Value.float .f64) vn) N.t_float64)::(sl (some ⟨r9,0,none⟩) (((i64.wrap ((i64.wrap (qa*(i64.wrap (qa-1)))).tdiv 2))).toNat) (((i64.wrap ((i64.wrap (qa*(i64.wrap (qa-1)))).tdiv 2))).toNat) (List.map (Value.float .f64) vv) N.t_float64)::(cl r2 [.int .i64 0,.slice none 0 0,.slice none 0 0] N.t_Factor)::(cl r1 [.int .i64 qa,.int .i64 qb,.slice qe qf qg] N.t_Matrix)::L)) (fun J48 hJ48=>?_) ?_
   ·
    have h:=h48
    clear h48
    obtain ⟨t44,ht44,h⟩:=bnd h
    obtain rfl:=fgt_s ht44
    refine cond_s h ?_ ?_<;>intro hc h
    ·
     obtain ⟨t45,ht45,h⟩:=bnd h
     refine wk_lower_finite H hS  ht45 ?_;rintro w hS
     refine ⟨_,rfl,?_⟩
     exact hJ48 _ _ ⟨_,some_inj h,rfl,hS⟩
    exact hJ48 _ _ ⟨_,some_inj h,rfl,hS⟩
   clear h48 hS
   rintro s w ⟨t43,rfl,rfl,hS⟩
   have h:=c48
   clear c48
   try dsimp only
   refine cond_s h ?_ ?_<;>intro hc h
   ·
    obtain rfl:=some_inj h
    have h:=congrArg some (hO _ rfl)
    obtain rfl:=some_inj h
    exact hJ19 _ _ ⟨_,_,_,_,rfl,rfl,(hS.pick (A:=[_,_,_,_,_]) [1,1,1] rfl)⟩
   obtain ⟨t46,ht46,h⟩:=bnd h
   obtain ⟨z49,rfl,q50x,zc,q50r⟩:=atF ht46
   refine idx_s ((Ent.sl mp1).now (fun _ h=>h) hS) q50x zc q50r ?_;intro b51 hb51
   replace hS:=ro1 hS
   obtain ⟨t47,ht47,h⟩:=bnd h
   obtain rfl:=setF ht47
   refine sto_s hS hb51 q50r ?_;intro w hS
   obtain ⟨o53,h53,c53⟩:=bnd h
   refine cutM_i (fun s w=>∃ (t48:Int) (t49:Int) (jm:List Nat),.inl (t48,t49,(List.map nf jm))=o53∧s=(t48,t49,())∧Ho w0 w ((sl (some ⟨r7,0,none⟩) ((qa).toNat) ((qa).toNat) (List.map (Value.float .f64) (vn.set (t21).toNat z28)) N.t_float64)::(sl (some ⟨r16,0,none⟩) ((qa).toNat) ((qa).toNat) (List.map (Value.float .f64) vq) N.t_float64)::(sl (some ⟨r9,0,none⟩) (((i64.wrap ((i64.wrap (qa*(i64.wrap (qa-1)))).tdiv 2))).toNat) (((i64.wrap ((i64.wrap (qa*(i64.wrap (qa-1)))).tdiv 2))).toNat) (List.map (Value.float .f64) jm) N.t_float64)::(cl r2 [.int .i64 0,.slice none 0 0,.slice none 0 0] N.t_Factor)::(cl r1 [.int .i64 qa,.int .i64 qb,.slice qe qf qg] N.t_Matrix)::L)) (fun J53 hJ53=>?_) ?_
   ·
    have h:=h53
    clear h53
    refine iter_sim (fun s w t=>∃ (t51:Int) (t52:Int) (t53:Int) (yf:List Nat),(t51,t52,t53,(List.map nf yf))=t∧s=(t51,t52,t53,())∧Ho w0 w ((sl (some ⟨r7,0,none⟩) ((qa).toNat) ((qa).toNat) (List.map (Value.float .f64) (vn.set (t21).toNat z28)) N.t_float64)::(sl (some ⟨r16,0,none⟩) ((qa).toNat) ((qa).toNat) (List.map (Value.float .f64) vq) N.t_float64)::(sl (some ⟨r9,0,none⟩) (((i64.wrap ((i64.wrap (qa*(i64.wrap (qa-1)))).tdiv 2))).toNat) (((i64.wrap ((i64.wrap (qa*(i64.wrap (qa-1)))).tdiv 2))).toNat) (List.map (Value.float .f64) yf) N.t_float64)::(cl r2 [.int .i64 0,.slice none 0 0,.slice none 0 0] N.t_Factor)::(cl r1 [.int .i64 qa,.int .i64 qb,.slice qe qf qg] N.t_Matrix)::L)) ?_ h ⟨_,_,_,_,rfl,rfl,hS⟩
    clear h hS
    rintro s w t X q ⟨t51,t52,t53,yf,rfl,rfl,hS⟩ h hX hO
    unfold T_lower_Factor_b38 at h
    try dsimp only
    refine cond_s h ?_ ?_<;>intro hc h
    ·
     obtain ⟨⟨t55,t56⟩,ho55,h⟩:=bnd h
     refine wk_lower_row H hS (Ent.sl mp2) ho55 ?_;clear hS ho55;rintro w hS
     refine ⟨_,_,_,rfl,?_⟩
     obtain ⟨t57,ht57,h⟩:=bnd h
     obtain ⟨rfl,jn,jo,yg⟩:=subF ht57
     have jp:=((Ent.sl mp2).now (fun _ h=>h) hS).hiCap yg
     refine ⟨_,_,_,hS.cel mp4 rfl,?_⟩
     obtain ⟨t58,ht58,h⟩:=bnd h
     obtain ⟨z57,rfl,q58x,zd,q58r⟩:=atF ht58
     refine idx_s ((qn.mono tl5).now (fun _ h=>h) hS) q58x zd q58r ?_;intro b59 hb59
     refine ⟨_,rd_get ((qn.mono tl5).now (fun _ h=>h) hS) hb59 q58x,?_⟩
     obtain ⟨o61,h61,c61⟩:=bnd h
     refine cutM_i (fun s w=>∃ (z60:Nat),(nf z60)=o61∧s=(z60,())∧Ho w0 w ((sl (some ⟨r7,0,none⟩) ((qa).toNat) ((qa).toNat) (List.map (Value.float .f64) (vn.set (t21).toNat z28)) N.t_float64)::(sl (some ⟨r16,0,none⟩) ((qa).toNat) ((qa).toNat) (List.map (Value.float .f64) vq) N.t_float64)::(sl (some ⟨r9,0,none⟩) (((i64.wrap ((i64.wrap (qa*(i64.wrap (qa-1)))).tdiv 2))).toNat) (((i64.wrap ((i64.wrap (qa*(i64.wrap (qa-1)))).tdiv 2))).toNat) (List.map (Value.float .f64) yf) N.t_float64)::(cl r2 [.int .i64 0,.slice none 0 0,.slice none 0 0] N.t_Factor)::(cl r1 [.int .i64 qa,.int .i64 qb,.slice qe qf qg] N.t_Matrix)::L)) (fun J61 hJ61=>?_) ?_
     ·
      have h:=h61
      clear h61
      refine iter_sim (fun s w t=>∃ (z62:Nat) (t61:Int),((nf z62),t61)=t∧s=(z62,t61,())∧Ho w0 w ((sl (some ⟨r7,0,none⟩) ((qa).toNat) ((qa).toNat) (List.map (Value.float .f64) (vn.set (t21).toNat z28)) N.t_float64)::(sl (some ⟨r16,0,none⟩) ((qa).toNat) ((qa).toNat) (List.map (Value.float .f64) vq) N.t_float64)::(sl (some ⟨r9,0,none⟩) (((i64.wrap ((i64.wrap (qa*(i64.wrap (qa-1)))).tdiv 2))).toNat) (((i64.wrap ((i64.wrap (qa*(i64.wrap (qa-1)))).tdiv 2))).toNat) (List.map (Value.float .f64) yf) N.t_float64)::(cl r2 [.int .i64 0,.slice none 0 0,.slice none 0 0] N.t_Factor)::(cl r1 [.int .i64 qa,.int .i64 qb,.slice qe qf qg] N.t_Matrix)::L)) ?_ h ⟨_,_,rfl,rfl,hS⟩
      clear h hS
      rintro s w t X q ⟨z62,t61,rfl,rfl,hS⟩ h hX hO
      unfold T_lower_Factor_b40 at h
      try dsimp only
      refine cond_s h ?_ ?_<;>intro hc h
      ·
       obtain ⟨t62,ht62,h⟩:=bnd h
       obtain ⟨z63,rfl,q64x,ze,q64r⟩:=atF ht62
       refine idx_s ((Ent.part3 (Ent.sl mp2) jn jo yg (Int.le_refl _) jp).now (fun _ h=>h) hS) q64x ze q64r ?_;intro b65 hb65
       refine ⟨_,rd_get ((Ent.part3 (Ent.sl mp2) jn jo yg (Int.le_refl _) jp).now (fun _ h=>h) hS) hb65 q64x,?_⟩
       obtain ⟨t63,ht63,h⟩:=bnd h
       obtain ⟨z66,rfl,q67x,zf,q67r⟩:=atF ht63
       refine idy_s ((Ent.sl mp1).now (fun _ h=>h) hS) q67x zf q67r ?_
       refine ⟨_,rd_get ((Ent.sl mp1).now (fun _ h=>h) hS) rfl q67x,?_⟩
       obtain ⟨t64,ht64,h⟩:=bnd h
       refine fmul_s ht64 hS ?_;clear ht64;rintro z69 _ rfl _
       obtain ⟨t65,ht65,h⟩:=bnd h
       refine fsub_s ht65 hS ?_;clear ht65;rintro z70 _ rfl _
       refine drM_s hS ?_;intro w hS
       obtain rfl:=some_inj h
       exact hX _ rfl _ _ ⟨_,_,rfl,rfl,hS⟩
      obtain rfl:=some_inj h
      have h:=congrArg some (hO _ rfl)
      exact hJ61 _ _ ⟨_,some_inj h,rfl,hS⟩
     clear h61 hS
     rintro s w ⟨z60,rfl,rfl,hS⟩
     have h:=c61
     clear c61
     try dsimp only
     obtain ⟨t66,ht66,h⟩:=bnd h
     obtain ⟨z71,rfl,q72x,zg,q72r⟩:=atF ht66
     refine idx_s ((Ent.sl mp0).now (fun _ h=>h) hS) q72x zg q72r ?_;intro b73 hb73
     refine ⟨_,rd_get ((Ent.sl mp0).now (fun _ h=>h) hS) hb73 q72x,?_⟩
     obtain ⟨t67,ht67,h⟩:=bnd h
     refine fdiv_s ht67 hS ?_;rintro z74 w rfl hS
     obtain ⟨t68,ht68,h⟩:=bnd h
     obtain ⟨z75,rfl,q76x,zh,q76r⟩:=atF ht68
     refine idx_s ((Ent.part3 (Ent.sl mp2) jn jo yg (Int.le_refl _) jp).now (fun _ h=>h) hS) q76x zh q76r ?_;intro b77 hb77
     replace hS:=ro2 hS
     obtain ⟨t69,ht69,h⟩:=bnd h
     obtain rfl:=setF ht69
     refine stp_s (len:=(t56).toNat-(t55).toNat) hS hb77 (by rw [len_take yg] at q76r;exact q76r) (by omega) (by omega) ?_;intro w hS
     obtain ⟨t70,ht70,h⟩:=bnd h
     obtain ⟨rfl,ge,gf,jq⟩:=subF ht70
     have gg:=((Ent.sl mp0).now (fun _ h=>h) hS).hiCap jq
     obtain ⟨t71,ht71,h⟩:=bnd h
     obtain ⟨z79,rfl,q80x,zi,q80r⟩:=atF ht71
     refine idx_s ((Ent.part3 (Ent.sl mp0) ge gf jq (Int.le_refl _) gg).now (fun _ h=>h) hS) q80x zi q80r ?_;intro b81 hb81
     refine ⟨_,rd_get ((Ent.part3 (Ent.sl mp0) ge gf jq (Int.le_refl _) gg).now (fun _ h=>h) hS) hb81 q80x,?_⟩
     obtain ⟨t72,ht72,h⟩:=bnd h
     refine wk_lower_finite H hS  ht72 ?_;rintro w hS
     refine ⟨_,rfl,?_⟩
     refine cond_s h ?_ ?_<;>intro hc h
     ·
      obtain rfl:=some_inj h
      have h:=congrArg some (hO _ rfl)
      obtain rfl:=some_inj h
      have h:=c53
      obtain rfl:=some_inj h
      have h:=congrArg some (hO _ rfl)
      obtain rfl:=some_inj h
      exact hJ19 _ _ ⟨_,_,_,_,rfl,rfl,(hS.pick (A:=[_,_,_,_,_]) [1,0,1] rfl)⟩
     obtain rfl:=some_inj h
     exact hX _ rfl _ _ ⟨_,_,_,_,rfl,rfl,(hS.pick (A:=[_,_,_,_,_]) [1,1,0,0,0] rfl)⟩
    obtain rfl:=some_inj h
    have h:=congrArg some (hO _ rfl)
    exact hJ53 _ _ ⟨_,_,_,some_inj h,rfl,hS⟩
   clear h53 hS
   rintro s w ⟨t48,t49,jm,rfl,rfl,hS⟩
   have h:=c53
   clear c53
   try dsimp only
   obtain rfl:=some_inj h
   exact hX _ rfl _ _ ⟨_,_,_,_,_,_,rfl,rfl,(hS.pick (A:=[_,_,_,_,_]) [1,0,0,0,0] rfl)⟩
  obtain rfl:=some_inj h
  have h:=congrArg some (hO _ rfl)
  obtain rfl:=some_inj h
  exact hJ19 _ _ ⟨_,_,_,_,rfl,rfl,(hS.pick (A:=[_,_,_,_,_]) [1,1,1] rfl)⟩
 clear h19 hS
 rintro s w ⟨t15,t16,jh,ji,rfl,rfl,hS⟩
 have h:=c19
 clear c19
 try dsimp only
 refine cond_s h ?_ ?_<;>intro hc h
 ·
  refine ⟨_,hS.cel mp2 rfl,_,_,_,hS.cel mp2 rfl,_,_,_,hS.cel mp2 rfl,?_⟩
  replace hS:=ro2 hS
  refine stc_s hS rfl rfl ?_;intro w hS
  refine stc_s hS rfl rfl ?_;intro w hS
  refine stc_s hS rfl rfl ?_;intro w hS
  refine ⟨_,hS.cel mp0 rfl,_,_,_,hS.cel mp0 rfl,_,_,_,hS.cel mp0 rfl,?_⟩
  replace hS:=hS.none (α:=Nat) (enc:=(Value.float .f64)) (t:=N.t_float64)
  replace hS:=hS.none (α:=Nat) (enc:=(Value.float .f64)) (t:=N.t_float64)
  cases some_inj h
  exact hK _ _ _ _ _ _ _ _ _ rfl rfl (hS.pick (A:=[_,_,_,_,_]) [1,0] rfl)
 replace hS:=ro2 hS
 refine stc_s hS rfl rfl ?_;intro w hS
 refine stc_s hS rfl rfl ?_;intro w hS
 refine stc_s hS rfl rfl ?_;intro w hS
 refine ⟨_,hS.cel mp0 rfl,_,_,_,hS.cel mp0 rfl,_,_,_,hS.cel mp0 rfl,?_⟩
 cases some_inj h
 exact hK _ _ _ _ _ _ _ _ _ rfl rfl (hS.pick (A:=[_,_,_]) [2,1] rfl)
theorem wk_lower_Right {qa qb qc qd qx qe qf qg qp u0} (hS:Ho w0 w L) (qh:EF L qx qb qc qd) (qn:EF L qp qe qf qg) (h:T_lower_Right qa (List.map nf qx) (List.map nf qp)=some u0) (hK:∀ w1,Ho w0 w1 L→K (.bool u0) w1):CallsX P N.f_lower_Right #[.agg #[.int .i64 qa,.slice qb qc qd,.slice qe qf qg]] w K:=by
 refine H.lower_Right qa qb qc qd qe qf qg w _ ?_
 unfold S_lower_Right
 unfold T_lower_Right at h
 try dsimp only
 refine newM_s hS ?_;intro r1 w hS
 refine ⟨_,hS.cel mp0 rfl,?_⟩
 refine cond_s h ?_ ?_<;>intro hc h
 ·
  refine ⟨_,hS.cel mp0 rfl,?_⟩
  refine cond_s h ?_ ?_<;>intro hc h
  ·
   refine ⟨_,_,_,hS.cel mp0 rfl,?_⟩
   obtain ⟨t1,ht1,h⟩:=bnd h
   obtain rfl:=lenF ht1 ((qh.mono tl1).now (fun _ h=>h) hS)
   refine ⟨_,hS.cel mp0 rfl,_,hS.cel mp0 rfl,?_⟩
   refine ⟨by decide,?_⟩
   refine cond_s h ?_ ?_<;>intro hc h
   ·
    refine ⟨_,_,_,hS.cel mp0 rfl,?_⟩
    obtain ⟨t2,ht2,h⟩:=bnd h
    obtain rfl:=lenF ht2 ((qn.mono tl1).now (fun _ h=>h) hS)
    refine ⟨_,hS.cel mp0 rfl,?_⟩
    cases some_inj h
    exact hK _ (hS.pick (A:=[_]) [] rfl)
   cases some_inj h
   exact hK _ (hS.pick (A:=[_]) [] rfl)
  cases some_inj h
  exact hK _ (hS.pick (A:=[_]) [] rfl)
 cases some_inj h
 exact hK _ (hS.pick (A:=[_]) [] rfl)
theorem wk_matrix_Make_1 {q0 q1 u0} (hS:Ho w0 w L)  (h:T_matrix_Make_1 q0 q1=some u0) (hK:∀ (z0:Nat) (w1:World),nf z0=u0→Ho w0 w1 L→K (.float .f64 z0) w1):CallsX P N.f_matrix_Make_1 #[.int .i64 q0,.int .i64 q1] w K:=by
 refine H.matrix_Make_1 q0 q1 w _ ?_
 unfold S_matrix_Make_1
 unfold T_matrix_Make_1 at h
 try dsimp only
 cases some_inj h
 exact hK _ _ rfl hS
theorem wk_matrix_Make {q0 q1 u0 u1 u2 u3} (hS:Ho w0 w L)  (hx:T_matrix_Make q0 q1=some (u0,u1,u2,u3)) (hK:∀ (a2:OA) (n2 c2:Nat) (rws2:List Nat) (w1:World),List.map nf rws2=u2→Ho w0 w1 ((sl a2 n2 c2 (List.map (Value.float .f64) rws2) N.t_float64)::L)→K (.tuple #[.agg #[.int .i64 u0,.int .i64 u1,.slice a2 n2 c2],.int .i64 u3]) w1):CallsX P N.f_matrix_Make #[.int .i64 q0,.int .i64 q1] w K:=by
 refine H.matrix_Make q0 q1 w _ ?_
 unfold S_matrix_Make
 unfold T_matrix_Make at hx
 have h:=hx
 clear hx
 try dsimp only
 refine newM_s hS ?_;intro r1 w hS
 obtain ⟨t1,ht1,h⟩:=bnd h
 refine wk_matrix_fits H hS  ht1 ?_;rintro w hS
 refine ⟨_,rfl,?_⟩
 refine cond_s h ?_ ?_<;>intro hc h
 ·
  obtain ⟨t2,ht2,h⟩:=bnd h
  refine wk_matrix_fits H hS  ht2 ?_;rintro w hS
  refine ⟨_,rfl,?_⟩
  refine cond_s h ?_ ?_<;>intro hc h
  ·
   refine stc_s hS rfl rfl ?_;intro w hS
   refine stc_s hS rfl rfl ?_;intro w hS
   refine stc_s hS rfl rfl ?_;intro w hS
   refine ⟨_,hS.cel mp0 rfl,_,hS.cel mp0 rfl,_,_,_,hS.cel mp0 rfl,?_⟩
   replace hS:=hS.none (α:=Nat) (enc:=(Value.float .f64)) (t:=N.t_float64)
   cases some_inj h
   exact hK _ _ _ _ _ rfl (hS.pick (A:=[_,_]) [0] rfl)
  obtain ⟨⟨t3,t4,t5⟩,ho3,h⟩:=bnd h
  refine wk_matrix_laid H hS (by intro v0 v1 w L1 r1 K hL hx hS hK;exact wk_matrix_Make_1 H hS  hx hK) ho3 ?_;clear hS ho3;rintro a2 m2 c2 ju w rfl hS
  refine ⟨_,_,_,_,_,rfl,?_⟩
  replace hS:=ro1 hS
  refine stc_s hS rfl rfl ?_;intro w hS
  refine stc_s hS rfl rfl ?_;intro w hS
  refine stc_s hS rfl rfl ?_;intro w hS
  refine ⟨_,hS.cel mp0 rfl,_,hS.cel mp0 rfl,_,_,_,hS.cel mp0 rfl,?_⟩
  cases some_inj h
  exact hK _ _ _ _ _ rfl (hS.pick (A:=[_,_]) [1] rfl)
 refine stc_s hS rfl rfl ?_;intro w hS
 refine stc_s hS rfl rfl ?_;intro w hS
 refine stc_s hS rfl rfl ?_;intro w hS
 refine ⟨_,hS.cel mp0 rfl,_,hS.cel mp0 rfl,_,_,_,hS.cel mp0 rfl,?_⟩
 replace hS:=hS.none (α:=Nat) (enc:=(Value.float .f64)) (t:=N.t_float64)
 cases some_inj h
 exact hK _ _ _ _ _ rfl (hS.pick (A:=[_,_]) [0] rfl)
theorem wk_lower_Times {qa qb qc qd qx qe qf qg qp u0 u1 u2 u3} (hS:Ho w0 w L) (qh:EF L qx qb qc qd) (qn:EF L qp qe qf qg) (h:T_lower_Times qa (List.map nf qx) (List.map nf qp)=some (u0,u1,u2,u3)) (hK:∀ (a2:OA) (n2 c2:Nat) (rws2:List Nat) (w1:World),List.map nf rws2=u2→Ho w0 w1 ((sl a2 n2 c2 (List.map (Value.float .f64) rws2) N.t_float64)::L)→K (.tuple #[.agg #[.int .i64 u0,.int .i64 u1,.slice a2 n2 c2],.int .i64 u3]) w1):CallsX P N.f_lower_Times #[.agg #[.int .i64 qa,.slice qb qc qd,.slice qe qf qg]] w K:=by
 refine H.lower_Times qa qb qc qd qe qf qg w _ ?_
 unfold S_lower_Times
 unfold T_lower_Times at h
 try dsimp only
 refine newM_s hS ?_;intro r1 w hS
 refine newM_s hS ?_;intro r2 w hS
 refine ⟨_,hS.cel mp1 rfl,_,_,_,hS.cel mp1 rfl,_,_,_,hS.cel mp1 rfl,?_⟩
 obtain ⟨t1,ht1,h⟩:=bnd h
 refine wk_lower_Right H hS (qh.mono tl2) (qn.mono tl2) ht1 ?_;rintro w hS
 refine ⟨_,rfl,?_⟩
 refine cond_s h ?_ ?_<;>intro hc h
 ·
  refine stc_s hS rfl rfl ?_;intro w hS
  refine stc_s hS rfl rfl ?_;intro w hS
  refine stc_s hS rfl rfl ?_;intro w hS
  refine ⟨_,hS.cel mp0 rfl,_,hS.cel mp0 rfl,_,_,_,hS.cel mp0 rfl,?_⟩
  replace hS:=hS.none (α:=Nat) (enc:=(Value.float .f64)) (t:=N.t_float64)
  cases some_inj h
  exact hK _ _ _ _ _ rfl (hS.pick (A:=[_,_,_]) [0] rfl)
 refine ⟨_,hS.cel mp1 rfl,?_⟩
 obtain ⟨⟨t2,t3,t4,t5⟩,ho2,h⟩:=bnd h
 refine wk_matrix_Make H hS  ho2 ?_;clear hS ho2;rintro a3 m3 c3 yu w rfl hS
 refine ⟨_,_,_,_,_,_,rfl,?_⟩
 refine newM_s hS ?_;intro r4 w hS
 refine stc_s hS rfl rfl ?_;intro w hS
 refine stc_s hS rfl rfl ?_;intro w hS
 refine stc_s hS rfl rfl ?_;intro w hS
 obtain ⟨o6,h6,c6⟩:=bnd h
 refine cutM_i (fun s w=>∃ (zj:List Nat),(List.map nf zj)=o6∧s=(())∧Ho w0 w ((cl r4 [.int .i64 t2,.int .i64 t3,.slice a3 m3 c3] N.t_Matrix)::(sl a3 m3 c3 (List.map (Value.float .f64) zj) N.t_float64)::(cl r2 [.int .i64 0,.int .i64 0,.slice none 0 0] N.t_Matrix)::L)) (fun J6 hJ6=>?_) ?_
 ·
  have h:=h6
  clear h6
  refine iter_sim (fun s w t=>∃ (t7:Int) (jg:List Nat),(t7,(List.map nf jg))=t∧s=(t7,())∧Ho w0 w ((cl r4 [.int .i64 t2,.int .i64 t3,.slice a3 m3 c3] N.t_Matrix)::(sl a3 m3 c3 (List.map (Value.float .f64) jg) N.t_float64)::(cl r2 [.int .i64 0,.int .i64 0,.slice none 0 0] N.t_Matrix)::(cl r1 [.int .i64 qa,.slice qb qc qd,.slice qe qf qg] N.t_Factor)::L)) ?_ h ⟨_,_,rfl,rfl,hS⟩
  clear h hS
  rintro s w t X q ⟨t7,jg,rfl,rfl,hS⟩ h hX hO
  unfold T_lower_Times_b27 at h
  try dsimp only
  refine cond_s h ?_ ?_<;>intro hc h
  ·
   refine ⟨_,_,_,hS.cel mp3 rfl,?_⟩
   obtain ⟨⟨t9,t10⟩,ho9,h⟩:=bnd h
   refine wk_lower_row H hS (qh.mono tl4) ho9 ?_;clear hS ho9;rintro w hS
   refine ⟨_,_,_,rfl,?_⟩
   obtain ⟨t11,ht11,h⟩:=bnd h
   obtain ⟨rfl,zk,zl,zm⟩:=subF ht11
   have bh:=((qh.mono tl4).now (fun _ h=>h) hS).hiCap zm
   obtain ⟨t12,ht12,h⟩:=bnd h
   obtain rfl:(List.map nf ([4607182418800017408]:List Nat))=t12:=some_inj ht12
   refine lit_s (ks:=[4607182418800017408]) (enc:=(Value.float .f64)) (m:=1) hS rfl rfl ?_;intro r10 w hS
   obtain ⟨t13,ht13,h⟩:=bnd h
   obtain ⟨rfl,kt13⟩:=appF ht13
   refine appn_s hS ((Ent.part3 (qh.mono tl5) zk zl zm (Int.le_refl _) bh).now (fun _ h=>h) hS) (by first | rfl | omega) (by simp) kt13 ((Ent.sl mp0).now (fun _ h=>h) hS) rfl ?_;clear hS kt13;intro a11 c11 w hS
   obtain ⟨o13,h13,c13⟩:=bnd h
   refine cutM_i (fun s w=>∃ (jr:List Nat),(List.map nf jr)=o13∧s=(())∧Ho w0 w ((cl r4 [.int .i64 t2,.int .i64 t3,.slice a3 m3 c3] N.t_Matrix)::(sl a3 m3 c3 (List.map (Value.float .f64) jr) N.t_float64)::(cl r2 [.int .i64 0,.int .i64 0,.slice none 0 0] N.t_Matrix)::(cl r1 [.int .i64 qa,.slice qb qc qd,.slice qe qf qg] N.t_Factor)::L)) (fun J13 hJ13=>?_) ?_
   ·
    have h:=h13
    clear h13
    refine iter_sim (fun s w t=>∃ (t15:Int) (yh:List Nat),(t15,(List.map nf yh))=t∧s=(t15,())∧Ho w0 w ((sl a11 ((t10.toNat-t9.toNat)+1) c11 (List.map (Value.float .f64) (((qx.drop ((t9).toNat)).take ((t10).toNat-(t9).toNat)) ++ [4607182418800017408])) N.t_float64)::(cl r4 [.int .i64 t2,.int .i64 t3,.slice a3 m3 c3] N.t_Matrix)::(sl a3 m3 c3 (List.map (Value.float .f64) yh) N.t_float64)::(cl r2 [.int .i64 0,.int .i64 0,.slice none 0 0] N.t_Matrix)::(cl r1 [.int .i64 qa,.slice qb qc qd,.slice qe qf qg] N.t_Factor)::L)) ?_ h ⟨_,_,rfl,rfl,(hS.pick (A:=[_,_,_,_,_,_]) [0,1,1,1,1] rfl)⟩
    clear h hS
    rintro s w t X q ⟨t15,yh,rfl,rfl,hS⟩ h hX hO
    unfold T_lower_Times_b36 at h
    try dsimp only
    refine cond_s h ?_ ?_<;>intro hc h
    ·
     refine ⟨_,_,_,hS.cel mp4 rfl,?_⟩
     obtain ⟨⟨t17,t18⟩,ho17,h⟩:=bnd h
     refine wk_lower_row H hS (qh.mono tl5) ho17 ?_;clear hS ho17;rintro w hS
     refine ⟨_,_,_,rfl,?_⟩
     obtain ⟨t19,ht19,h⟩:=bnd h
     obtain ⟨rfl,jz,ga,yb⟩:=subF ht19
     have gb:=((qh.mono tl5).now (fun _ h=>h) hS).hiCap yb
     obtain ⟨t20,ht20,h⟩:=bnd h
     obtain rfl:(List.map nf ([4607182418800017408]:List Nat))=t20:=some_inj ht20
     refine lit_s (ks:=[4607182418800017408]) (enc:=(Value.float .f64)) (m:=1) hS rfl rfl ?_;intro r17 w hS
     obtain ⟨t21,ht21,h⟩:=bnd h
     obtain ⟨rfl,kt21⟩:=appF ht21
     refine appn_s hS ((Ent.part3 (qh.mono tl6) jz ga yb (Int.le_refl _) gb).now (fun _ h=>h) hS) (by first | rfl | omega) (by simp) kt21 ((Ent.sl mp0).now (fun _ h=>h) hS) rfl ?_;clear hS kt21;intro a18 c18 w hS
     obtain ⟨o20,h20,c20⟩:=bnd h
     refine cutM_i (fun s w=>∃ (z19:Nat),(nf z19)=o20∧s=(z19,())∧Ho w0 w ((sl a11 ((t10.toNat-t9.toNat)+1) c11 (List.map (Value.float .f64) (((qx.drop ((t9).toNat)).take ((t10).toNat-(t9).toNat)) ++ [4607182418800017408])) N.t_float64)::(cl r4 [.int .i64 t2,.int .i64 t3,.slice a3 m3 c3] N.t_Matrix)::(sl a3 m3 c3 (List.map (Value.float .f64) yh) N.t_float64)::(cl r2 [.int .i64 0,.int .i64 0,.slice none 0 0] N.t_Matrix)::(cl r1 [.int .i64 qa,.slice qb qc qd,.slice qe qf qg] N.t_Factor)::L)) (fun J20 hJ20=>?_) ?_
     ·
      have h:=h20
      clear h20
      refine iter_sim (fun s w t=>∃ (z21:Nat) (t24:Int),((nf z21),t24)=t∧s=(z21,t24,())∧Ho w0 w ((sl a18 ((t18.toNat-t17.toNat)+1) c18 (List.map (Value.float .f64) (((qx.drop ((t17).toNat)).take ((t18).toNat-(t17).toNat)) ++ [4607182418800017408])) N.t_float64)::(sl a11 ((t10.toNat-t9.toNat)+1) c11 (List.map (Value.float .f64) (((qx.drop ((t9).toNat)).take ((t10).toNat-(t9).toNat)) ++ [4607182418800017408])) N.t_float64)::(cl r4 [.int .i64 t2,.int .i64 t3,.slice a3 m3 c3] N.t_Matrix)::(sl a3 m3 c3 (List.map (Value.float .f64) yh) N.t_float64)::(cl r2 [.int .i64 0,.int .i64 0,.slice none 0 0] N.t_Matrix)::(cl r1 [.int .i64 qa,.slice qb qc qd,.slice qe qf qg] N.t_Factor)::L)) ?_ h ⟨_,_,rfl,rfl,(hS.pick (A:=[_,_,_,_,_,_,_]) [0,1,1,1,1,1] rfl)⟩
      clear h hS
      rintro s w t X q ⟨z21,t24,rfl,rfl,hS⟩ h hX hO
      unfold T_lower_Times_b38 at h
      try dsimp only
      refine cond_s h ?_ ?_<;>intro hc h
      ·
       obtain ⟨t25,ht25,h⟩:=bnd h
       obtain ⟨z22,rfl,q23x,zn,q23r⟩:=atF ht25
       refine idx_s ((Ent.sl mp1).now (fun _ h=>h) hS) q23x zn q23r ?_;intro b24 hb24
       refine ⟨_,rd_get ((Ent.sl mp1).now (fun _ h=>h) hS) hb24 q23x,?_⟩
       refine ⟨_,_,_,hS.cel mp5 rfl,?_⟩
       obtain ⟨t26,ht26,h⟩:=bnd h
       obtain ⟨z25,rfl,q26x,jk,q26r⟩:=atF ht26
       refine idx_s ((qn.mono tl6).now (fun _ h=>h) hS) q26x jk q26r ?_;intro b27 hb27
       refine ⟨_,rd_get ((qn.mono tl6).now (fun _ h=>h) hS) hb27 q26x,?_⟩
       obtain ⟨t27,ht27,h⟩:=bnd h
       refine fmul_s ht27 hS ?_;clear ht27;rintro z28 _ rfl _
       refine drM_s hS ?_;intro w hS
       obtain ⟨t28,ht28,h⟩:=bnd h
       obtain ⟨z29,rfl,q30x,zo,q30r⟩:=atF ht28
       refine idx_s ((Ent.sl mp0).now (fun _ h=>h) hS) q30x zo q30r ?_;intro b31 hb31
       refine ⟨_,rd_get ((Ent.sl mp0).now (fun _ h=>h) hS) hb31 q30x,?_⟩
       obtain ⟨t29,ht29,h⟩:=bnd h
       refine fmul_s ht29 hS ?_;rintro z32 w rfl hS
       obtain ⟨t30,ht30,h⟩:=bnd h
       refine fadd_s ht30 hS ?_;rintro z33 w rfl hS
       obtain rfl:=some_inj h
       exact hX _ rfl _ _ ⟨_,_,rfl,rfl,hS⟩
      obtain rfl:=some_inj h
      have h:=congrArg some (hO _ rfl)
      obtain rfl:=some_inj h
      exact hJ20 _ _ ⟨_,rfl,rfl,(hS.pick (A:=[_,_,_,_,_,_]) [1,1,1,1,1] rfl)⟩
     clear h20 hS
     rintro s w ⟨z19,rfl,rfl,hS⟩
     have h:=c20
     clear c20
     try dsimp only
     refine ⟨_,_,_,hS.cel mp1 rfl,_,_,_,hS.cel mp1 rfl,?_⟩
     obtain ⟨t31,ht31,h⟩:=bnd h
     obtain ⟨z34,rfl,q35x,zp,q35r⟩:=atF ht31
     refine idx_s ((Ent.sl mp2).now (fun _ h=>h) hS) q35x zp q35r ?_;intro b36 hb36
     refine drM_s hS ?_;intro w hS
     replace hS:=ro2 hS
     obtain ⟨t32,ht32,h⟩:=bnd h
     obtain rfl:=setF ht32
     refine sto_s hS hb36 q35r ?_;intro w hS
     refine ⟨(hS.cel mp2 rfl),?_⟩
     obtain ⟨t33,ht33,h⟩:=bnd h
     obtain ⟨z37,rfl,q38x,zq,q38r⟩:=atF ht33
     refine idx_s ((Ent.sl mp0).now (fun _ h=>h) hS) q38x zq q38r ?_;intro b39 hb39
     refine drM_s hS ?_;intro w hS
     obtain ⟨t34,ht34,h⟩:=bnd h
     obtain rfl:=setF ht34
     refine sto_s hS hb39 q38r ?_;intro w hS
     refine drM_s hS ?_;intro w hS
     obtain rfl:=some_inj h
     exact hX _ rfl _ _ ⟨_,_,rfl,rfl,(hS.pick (A:=[_,_,_,_,_]) [1,1,0,0,0] rfl)⟩
    obtain rfl:=some_inj h
    have h:=congrArg some (hO _ rfl)
    obtain rfl:=some_inj h
    exact hJ13 _ _ ⟨_,rfl,rfl,(hS.pick (A:=[_,_,_,_,_]) [1,1,1,1] rfl)⟩
   clear h13 hS
   rintro s w ⟨jr,rfl,rfl,hS⟩
   have h:=c13
   clear c13
   try dsimp only
   obtain rfl:=some_inj h
   exact hX _ rfl _ _ ⟨_,_,rfl,rfl,hS⟩
  obtain rfl:=some_inj h
  have h:=congrArg some (hO _ rfl)
  obtain rfl:=some_inj h
  exact hJ6 _ _ ⟨_,rfl,rfl,(hS.pick (A:=[_,_,_,_]) [0,0,0] rfl)⟩
 clear h6 hS
 rintro s w ⟨zj,rfl,rfl,hS⟩
 have h:=c6
 clear c6
 try dsimp only
 refine ⟨_,hS.cel mp0 rfl,_,hS.cel mp0 rfl,_,_,_,hS.cel mp0 rfl,?_⟩
 replace hS:=ro2 hS
 refine stc_s hS rfl rfl ?_;intro w hS
 refine stc_s hS rfl rfl ?_;intro w hS
 refine stc_s hS rfl rfl ?_;intro w hS
 refine ⟨_,hS.cel mp0 rfl,_,hS.cel mp0 rfl,_,_,_,hS.cel mp0 rfl,?_⟩
 cases some_inj h
 exact hK _ _ _ _ _ rfl (hS.pick (A:=[_,_,_]) [2] rfl)
theorem wk_k_SameFloat {q0 q1 u0} (hS:Ho w0 w L)  (hx:T_k_SameFloat (nf q0) (nf q1)=some u0) (hK:∀ w1,Ho w0 w1 L→K (.bool u0) w1):CallsX P N.f_k_SameFloat #[.float .f64 q0,.float .f64 q1] w K:=by
 unfold T_k_SameFloat at hx
 have hx:=some_inj hx
 subst hx
 refine (sameFloat_c H q0 q1 w).mono ?_
 rintro _ w1 ⟨rfl,h1⟩
 exact hK _ (hS.next h1)
theorem wk_k_SameReals {q0 qm qs yi q1 qr qw gd u0} (hS:Ho w0 w L) (qv:EF L yi q0 qm qs) (qy:EF L gd q1 qr qw) (h:T_k_SameReals (List.map nf yi) (List.map nf gd)=some u0) (hK:∀ w1,Ho w0 w1 L→K (.bool u0) w1):CallsX P N.f_k_SameReals #[.slice q0 qm qs,.slice q1 qr qw] w K:=by
 refine H.k_SameReals q0 qm qs q1 qr qw w _ ?_
 unfold S_k_SameReals
 unfold T_k_SameReals at h
 try dsimp only
 obtain ⟨t1,ht1,h⟩:=bnd h
 obtain rfl:=lenF ht1 (qv.now (fun _ h=>h) hS)
 obtain ⟨t2,ht2,h⟩:=bnd h
 obtain rfl:=lenF ht2 (qy.now (fun _ h=>h) hS)
 refine cond_s h ?_ ?_<;>intro hc h
 ·
  cases some_inj h
  exact hK _ hS
 obtain ⟨o1,h1,c1⟩:=bnd h
 refine cutM_i (fun s w =>  .inl ()=o1∧s=(())∧Ho w0 w L) (fun J1 hJ1=>?_) ?_
 ·
  have h:=h1
  clear h1
  refine iter_sim (fun s w t=>∃ (t3:Int),t3=t∧s=(t3,())∧Ho w0 w L) ?_ h ⟨_,rfl,rfl,hS⟩
  clear h hS
  rintro s w t X q ⟨t3,rfl,rfl,hS⟩ h hX hO
  unfold T_k_SameReals_b2 at h
  try dsimp only
  obtain ⟨t4,ht4,h⟩:=bnd h
  obtain rfl:=lenF ht4 (qv.now (fun _ h=>h) hS)
  refine cond_s h ?_ ?_<;>intro hc h
  ·
   obtain ⟨t5,ht5,h⟩:=bnd h
   obtain ⟨z2,rfl,q3x,vm,q3r⟩:=atF ht5
   refine idx_s (qv.now (fun _ h=>h) hS) q3x vm q3r ?_;intro b4 hb4
   refine ⟨_,rd_get (qv.now (fun _ h=>h) hS) hb4 q3x,?_⟩
   obtain ⟨t6,ht6,h⟩:=bnd h
   obtain ⟨z5,rfl,q6x,vt,q6r⟩:=atF ht6
   refine idx_s (qy.now (fun _ h=>h) hS) q6x vt q6r ?_;intro b7 hb7
   refine ⟨_,rd_get (qy.now (fun _ h=>h) hS) hb7 q6x,?_⟩
   refine drM_s hS ?_;intro w hS
   obtain ⟨t7,ht7,h⟩:=bnd h
   refine wk_k_SameFloat H hS  ht7 ?_;rintro w hS
   refine ⟨_,rfl,?_⟩
   refine drM_s hS ?_;intro w hS
   refine cond_s h ?_ ?_<;>intro hc h
   ·
    obtain rfl:=some_inj h
    have h:=congrArg some (hO _ rfl)
    obtain rfl:=some_inj h
    have h:=c1
    cases some_inj h
    exact hK _ hS
   obtain rfl:=some_inj h
   exact hX _ rfl _ _ ⟨_,rfl,rfl,hS⟩
  obtain rfl:=some_inj h
  have h:=congrArg some (hO _ rfl)
  exact hJ1 _ _ ⟨some_inj h,rfl,hS⟩
 clear h1 hS
 rintro s w ⟨rfl,rfl,hS⟩
 have h:=c1
 clear c1
 try dsimp only
 cases some_inj h
 exact hK _ hS
theorem wk_k_SameFactor {qa qb qc qd qx qe qf qg qp qk ql qi qj jb qo qt qu vk u0} (hS:Ho w0 w L) (qh:EF L qx qb qc qd) (qn:EF L qp qe qf qg) (qq:EF L jb ql qi qj) (vp:EF L vk qo qt qu) (h:T_k_SameFactor qa (List.map nf qx) (List.map nf qp) qk (List.map nf jb) (List.map nf vk)=some u0) (hK:∀ w1,Ho w0 w1 L→K (.bool u0) w1):CallsX P N.f_k_SameFactor #[.agg #[.int .i64 qa,.slice qb qc qd,.slice qe qf qg],.agg #[.int .i64 qk,.slice ql qi qj,.slice qo qt qu]] w K:=by
 refine H.k_SameFactor qa qb qc qd qe qf qg qk ql qi qj qo qt qu w _ ?_
 unfold S_k_SameFactor
 unfold T_k_SameFactor at h
 try dsimp only
 refine newM_s hS ?_;intro r1 w hS
 refine newM_s hS ?_;intro r2 w hS
 refine ⟨_,hS.cel mp1 rfl,_,hS.cel mp0 rfl,?_⟩
 refine cond_s h ?_ ?_<;>intro hc h
 ·
  refine ⟨_,_,_,hS.cel mp1 rfl,_,_,_,hS.cel mp0 rfl,?_⟩
  obtain ⟨t1,ht1,h⟩:=bnd h
  refine wk_k_SameReals H hS (qh.mono tl2) (qq.mono tl2) ht1 ?_;rintro w hS
  refine ⟨_,rfl,?_⟩
  refine cond_s h ?_ ?_<;>intro hc h
  ·
   refine ⟨_,_,_,hS.cel mp1 rfl,_,_,_,hS.cel mp0 rfl,?_⟩
   obtain ⟨t2,ht2,h⟩:=bnd h
   refine wk_k_SameReals H hS (qn.mono tl2) (vp.mono tl2) ht2 ?_;rintro w hS
   refine ⟨_,rfl,?_⟩
   cases some_inj h
   exact hK _ (hS.pick (A:=[_,_]) [] rfl)
  cases some_inj h
  exact hK _ (hS.pick (A:=[_,_]) [] rfl)
 cases some_inj h
 exact hK _ (hS.pick (A:=[_,_]) [] rfl)
theorem wk_k_SameMatrix {qa qb qe qf qg qp qk ql qo qt qu vk u0} (hS:Ho w0 w L) (qn:EF L qp qe qf qg) (vp:EF L vk qo qt qu) (h:T_k_SameMatrix qa qb (List.map nf qp) qk ql (List.map nf vk)=some u0) (hK:∀ w1,Ho w0 w1 L→K (.bool u0) w1):CallsX P N.f_k_SameMatrix #[.agg #[.int .i64 qa,.int .i64 qb,.slice qe qf qg],.agg #[.int .i64 qk,.int .i64 ql,.slice qo qt qu]] w K:=by
 refine H.k_SameMatrix qa qb qe qf qg qk ql qo qt qu w _ ?_
 unfold S_k_SameMatrix
 unfold T_k_SameMatrix at h
 try dsimp only
 refine newM_s hS ?_;intro r1 w hS
 refine newM_s hS ?_;intro r2 w hS
 refine ⟨_,hS.cel mp1 rfl,_,hS.cel mp0 rfl,?_⟩
 refine cond_s h ?_ ?_<;>intro hc h
 ·
  refine ⟨_,hS.cel mp1 rfl,_,hS.cel mp0 rfl,?_⟩
  refine cond_s h ?_ ?_<;>intro hc h
  ·
   refine ⟨_,_,_,hS.cel mp1 rfl,_,_,_,hS.cel mp0 rfl,?_⟩
   obtain ⟨t1,ht1,h⟩:=bnd h
   refine wk_k_SameReals H hS (qn.mono tl2) (vp.mono tl2) ht1 ?_;rintro w hS
   refine ⟨_,rfl,?_⟩
   cases some_inj h
   exact hK _ (hS.pick (A:=[_,_]) [] rfl)
  cases some_inj h
  exact hK _ (hS.pick (A:=[_,_]) [] rfl)
 cases some_inj h
 exact hK _ (hS.pick (A:=[_,_]) [] rfl)
theorem wk_w12_awake  {u0} (hS:Ho w0 w L)  (h:T_w12_awake  = some u0) (hK:∀ w1,Ho w0 w1 L→K (.bool u0) w1):CallsX P N.f_w12_awake #[] w K:=by
 refine H.w12_awake  w _ ?_
 unfold S_w12_awake
 unfold T_w12_awake at h
 try dsimp only
 obtain ⟨t1,ht1,h⟩:=bnd h
 obtain rfl:(List.map nf ([4616189618054758400,4611686018427387904,4611686018427387904,4617315517961601024]:List Nat))=t1:=some_inj ht1
 refine lit_s (ks:=[4616189618054758400,4611686018427387904,4611686018427387904,4617315517961601024]) (enc:=(Value.float .f64)) (m:=4) hS rfl rfl ?_;intro r1 w hS
 refine newM_s hS ?_;intro r2 w hS
 refine stc_s hS rfl rfl ?_;intro w hS
 refine stc_s hS rfl rfl ?_;intro w hS
 refine stc_s hS rfl rfl ?_;intro w hS
 refine ⟨_,hS.cel mp0 rfl,_,hS.cel mp0 rfl,_,_,_,hS.cel mp0 rfl,?_⟩
 obtain ⟨⟨t2,t3,t4,t5,t6⟩,ho2,h⟩:=bnd h
 refine wk_lower_Factor H hS (Ent.sl mp1) ho2 ?_;clear hS ho2;rintro a3 m3 c3 yu a4 m4 c4 yt w rfl rfl hS
 refine ⟨_,_,_,_,_,_,_,_,_,rfl,?_⟩
 refine newM_s hS ?_;intro r5 w hS
 refine stc_s hS rfl rfl ?_;intro w hS
 refine stc_s hS rfl rfl ?_;intro w hS
 refine stc_s hS rfl rfl ?_;intro w hS
 refine ⟨_,hS.cel mp0 rfl,_,_,_,hS.cel mp0 rfl,_,_,_,hS.cel mp0 rfl,?_⟩
 obtain ⟨⟨t7,t8,t9,t10⟩,ho7,h⟩:=bnd h
 refine wk_lower_Times H hS (Ent.sl mp1) (Ent.sl mp2) ho7 ?_;clear hS ho7;rintro a6 m6 c6 vw w rfl hS
 refine ⟨_,_,_,_,_,_,rfl,?_⟩
 refine newM_s hS ?_;intro r7 w hS
 refine stc_s hS rfl rfl ?_;intro w hS
 refine stc_s hS rfl rfl ?_;intro w hS
 refine stc_s hS rfl rfl ?_;intro w hS
 obtain ⟨t11,ht11,h⟩:=bnd h
 obtain rfl:(List.map nf ([4616189618054758400,4611686018427387904,4611686018427387904,4607182418800017408]:List Nat))=t11:=some_inj ht11
 refine lit_s (ks:=[4616189618054758400,4611686018427387904,4611686018427387904,4607182418800017408]) (enc:=(Value.float .f64)) (m:=4) hS rfl rfl ?_;intro r8 w hS
 obtain ⟨⟨t12,t13,t14,t15,t16⟩,ho12,h⟩:=bnd h
 refine wk_lower_Factor H hS (Ent.sl mp0) ho12 ?_;clear hS ho12;rintro a9 m9 c9 ja a10 m10 c10 yv w rfl rfl hS
 refine ⟨_,_,_,_,_,_,_,_,_,rfl,?_⟩
 refine newM_s hS ?_;intro r11 w hS
 refine stc_s hS rfl rfl ?_;intro w hS
 refine stc_s hS rfl rfl ?_;intro w hS
 refine stc_s hS rfl rfl ?_;intro w hS
 refine cond_s h ?_ ?_<;>intro hc h
 ·
  refine cond_s h ?_ ?_<;>intro hc h
  ·
   refine ⟨_,hS.cel mp6 rfl,_,_,_,hS.cel mp6 rfl,_,_,_,hS.cel mp6 rfl,?_⟩
   obtain ⟨t17,ht17,h⟩:=bnd h
   obtain rfl:(List.map nf ([4602678819172646912]:List Nat))=t17:=some_inj ht17
   refine lit_s (ks:=[4602678819172646912]) (enc:=(Value.float .f64)) (m:=1) hS rfl rfl ?_;intro r12 w hS
   obtain ⟨t18,ht18,h⟩:=bnd h
   obtain rfl:(List.map nf ([4616189618054758400,4616189618054758400]:List Nat))=t18:=some_inj ht18
   refine lit_s (ks:=[4616189618054758400,4616189618054758400]) (enc:=(Value.float .f64)) (m:=2) hS rfl rfl ?_;intro r13 w hS
   obtain ⟨t19,ht19,h⟩:=bnd h
   refine wk_k_SameFactor H hS (Ent.sl mp9) (Ent.sl mp10) (Ent.sl mp1) (Ent.sl mp0) ht19 ?_;rintro w hS
   refine ⟨_,rfl,?_⟩
   refine cond_s h ?_ ?_<;>intro hc h
   ·
    refine cond_s h ?_ ?_<;>intro hc h
    ·
     refine ⟨_,hS.cel mp6 rfl,_,hS.cel mp6 rfl,_,_,_,hS.cel mp6 rfl,_,hS.cel mp11 rfl,_,hS.cel mp11 rfl,_,_,_,hS.cel mp11 rfl,?_⟩
     obtain ⟨t20,ht20,h⟩:=bnd h
     refine wk_k_SameMatrix H hS (Ent.sl mp7) (Ent.sl mp12) ht20 ?_;rintro w hS
     refine ⟨_,rfl,?_⟩
     refine cond_s h ?_ ?_<;>intro hc h
     ·
      refine cond_s h ?_ ?_<;>intro hc h
      ·
       cases some_inj h
       exact hK _ (hS.pick (A:=[_,_,_,_,_,_,_,_,_,_,_,_,_]) [] rfl)
      cases some_inj h
      exact hK _ (hS.pick (A:=[_,_,_,_,_,_,_,_,_,_,_,_,_]) [] rfl)
     cases some_inj h
     exact hK _ (hS.pick (A:=[_,_,_,_,_,_,_,_,_,_,_,_,_]) [] rfl)
    cases some_inj h
    exact hK _ (hS.pick (A:=[_,_,_,_,_,_,_,_,_,_,_,_,_]) [] rfl)
   cases some_inj h
   exact hK _ (hS.pick (A:=[_,_,_,_,_,_,_,_,_,_,_,_,_]) [] rfl)
  cases some_inj h
  exact hK _ (hS.pick (A:=[_,_,_,_,_,_,_,_,_,_,_]) [] rfl)
 cases some_inj h
 exact hK _ (hS.pick (A:=[_,_,_,_,_,_,_,_,_,_,_]) [] rfl)
theorem wk_w12_mirrored {qa qb qe qf qg qp u0 u1 u2} (hS:Ho w0 w L) (qn:EF L qp qe qf qg) (h:T_w12_mirrored qa qb (List.map nf qp)=some (u0,u1,u2)) (hK:∀ (a2:OA) (n2 c2:Nat) (rws2:List Nat) (w1:World),List.map nf rws2=u2→Ho w0 w1 ((sl a2 n2 c2 (List.map (Value.float .f64) rws2) N.t_float64)::L)→K (.agg #[.int .i64 u0,.int .i64 u1,.slice a2 n2 c2]) w1):CallsX P N.f_w12_mirrored #[.agg #[.int .i64 qa,.int .i64 qb,.slice qe qf qg]] w K:=by
 refine H.w12_mirrored qa qb qe qf qg w _ ?_
 unfold S_w12_mirrored
 unfold T_w12_mirrored at h
 try dsimp only
 refine newM_s hS ?_;intro r1 w hS
 refine newM_s hS ?_;intro r2 w hS
 obtain ⟨o3,h3,c3⟩:=bnd h
 refine cutM_i (fun s w=>∃ (t1:Int),t1=o3∧s=(t1,())∧Ho w0 w ((cl r2 [.int .i64 0,.int .i64 0,.slice none 0 0] N.t_Matrix)::(cl r1 [.int .i64 qa,.int .i64 qb,.slice qe qf qg] N.t_Matrix)::L)) (fun J3 hJ3=>?_) ?_
 ·
  have h:=h3
  clear h3
  refine iter_sim (fun s w t=>∃ (t2:Int),t2=t∧s=(t2,())∧Ho w0 w ((cl r2 [.int .i64 0,.int .i64 0,.slice none 0 0] N.t_Matrix)::(cl r1 [.int .i64 qa,.int .i64 qb,.slice qe qf qg] N.t_Matrix)::L)) ?_ h ⟨_,rfl,rfl,hS⟩
  clear h hS
  rintro s w t X q ⟨t2,rfl,rfl,hS⟩ h hX hO
  unfold T_w12_mirrored_b2 at h
  try dsimp only
  refine cond_s h ?_ ?_<;>intro hc h
  ·
   refine ⟨_,_,_,hS.cel mp1 rfl,?_⟩
   obtain ⟨t3,ht3,h⟩:=bnd h
   obtain rfl:=lenF ht3 ((qn.mono tl2).now (fun _ h=>h) hS)
   refine cond_s h ?_ ?_<;>intro hc h
   ·
    refine ⟨_,hS.cel mp1 rfl,?_⟩
    refine cond_s h ?_ ?_<;>intro hc h
    ·
     obtain rfl:=some_inj h
     exact hX _ rfl _ _ ⟨_,rfl,rfl,hS⟩
    obtain rfl:=some_inj h
    have h:=congrArg some (hO _ rfl)
    exact hJ3 _ _ ⟨_,some_inj h,rfl,hS⟩
   obtain rfl:=some_inj h
   have h:=congrArg some (hO _ rfl)
   exact hJ3 _ _ ⟨_,some_inj h,rfl,hS⟩
  obtain rfl:=some_inj h
  have h:=congrArg some (hO _ rfl)
  exact hJ3 _ _ ⟨_,some_inj h,rfl,hS⟩
 clear h3 hS
 rintro s w ⟨t1,rfl,rfl,hS⟩
 have h:=c3
 clear c3
 try dsimp only
 obtain ⟨t4,ht4,h⟩:=bnd h
 obtain ⟨rfl,kt4⟩:=mkF ht4
 refine mk_s (enc:=(Value.float .f64)) hS kt4 rfl ?_;clear hS kt4;intro r4 w hS
 refine newM_s hS ?_;intro r5 w hS
 refine stc_s hS rfl rfl ?_;intro w hS
 refine stc_s hS rfl rfl ?_;intro w hS
 refine stc_s hS rfl rfl ?_;intro w hS
 obtain ⟨o7,h7,c7⟩:=bnd h
 refine cutM_i (fun s w=>∃ (vw:List Nat),(List.map nf vw)=o7∧s=(())∧Ho w0 w ((cl r5 [.int .i64 t1,.int .i64 t1,.slice (some ⟨r4,0,none⟩) (((i64.wrap (t1*t1))).toNat) (((i64.wrap (t1*t1))).toNat)] N.t_Matrix)::(sl (some ⟨r4,0,none⟩) (((i64.wrap (t1*t1))).toNat) (((i64.wrap (t1*t1))).toNat) (List.map (Value.float .f64) vw) N.t_float64)::(cl r2 [.int .i64 0,.int .i64 0,.slice none 0 0] N.t_Matrix)::L)) (fun J7 hJ7=>?_) ?_
 ·
  have h:=h7
  clear h7
  refine iter_sim (fun s w t=>∃ (t6:Int) (ye:List Nat),(t6,(List.map nf ye))=t∧s=(t6,())∧Ho w0 w ((cl r5 [.int .i64 t1,.int .i64 t1,.slice (some ⟨r4,0,none⟩) (((i64.wrap (t1*t1))).toNat) (((i64.wrap (t1*t1))).toNat)] N.t_Matrix)::(sl (some ⟨r4,0,none⟩) (((i64.wrap (t1*t1))).toNat) (((i64.wrap (t1*t1))).toNat) (List.map (Value.float .f64) ye) N.t_float64)::(cl r2 [.int .i64 0,.int .i64 0,.slice none 0 0] N.t_Matrix)::(cl r1 [.int .i64 qa,.int .i64 qb,.slice qe qf qg] N.t_Matrix)::L)) ?_ h ⟨_,_,rfl,rfl,hS⟩
  clear h hS
  rintro s w t X q ⟨t6,ye,rfl,rfl,hS⟩ h hX hO
  unfold T_w12_mirrored_b9 at h
  try dsimp only
  refine cond_s h ?_ ?_<;>intro hc h
  ·
   obtain ⟨o10,h10,c10⟩:=bnd h
   refine cutM_i (fun s w=>∃ (ja:List Nat),(List.map nf ja)=o10∧s=(())∧Ho w0 w ((cl r5 [.int .i64 t1,.int .i64 t1,.slice (some ⟨r4,0,none⟩) (((i64.wrap (t1*t1))).toNat) (((i64.wrap (t1*t1))).toNat)] N.t_Matrix)::(sl (some ⟨r4,0,none⟩) (((i64.wrap (t1*t1))).toNat) (((i64.wrap (t1*t1))).toNat) (List.map (Value.float .f64) ja) N.t_float64)::(cl r2 [.int .i64 0,.int .i64 0,.slice none 0 0] N.t_Matrix)::(cl r1 [.int .i64 qa,.int .i64 qb,.slice qe qf qg] N.t_Matrix)::L)) (fun J10 hJ10=>?_) ?_
   ·
    have h:=h10
    clear h10
    refine iter_sim (fun s w t=>∃ (t9:Int) (js:List Nat),(t9,(List.map nf js))=t∧s=(t9,())∧Ho w0 w ((cl r5 [.int .i64 t1,.int .i64 t1,.slice (some ⟨r4,0,none⟩) (((i64.wrap (t1*t1))).toNat) (((i64.wrap (t1*t1))).toNat)] N.t_Matrix)::(sl (some ⟨r4,0,none⟩) (((i64.wrap (t1*t1))).toNat) (((i64.wrap (t1*t1))).toNat) (List.map (Value.float .f64) js) N.t_float64)::(cl r2 [.int .i64 0,.int .i64 0,.slice none 0 0] N.t_Matrix)::(cl r1 [.int .i64 qa,.int .i64 qb,.slice qe qf qg] N.t_Matrix)::L)) ?_ h ⟨_,_,rfl,rfl,hS⟩
    clear h hS
    rintro s w t X q ⟨t9,js,rfl,rfl,hS⟩ h hX hO
    unfold T_w12_mirrored_b11 at h
    try dsimp only
    refine cond_s h ?_ ?_<;>intro hc h
    ·
     refine ⟨_,_,_,hS.cel mp0 rfl,_,_,_,hS.cel mp3 rfl,?_⟩
     obtain ⟨t11,ht11,h⟩:=bnd h
     obtain ⟨z12,rfl,q13x,jf,q13r⟩:=atF ht11
     refine idx_s ((qn.mono tl4).now (fun _ h=>h) hS) q13x jf q13r ?_;intro b14 hb14
     refine ⟨_,rd_get ((qn.mono tl4).now (fun _ h=>h) hS) hb14 q13x,?_⟩
     obtain ⟨t12,ht12,h⟩:=bnd h
     obtain ⟨z15,rfl,q16x,jt,q16r⟩:=atF ht12
     refine idx_s ((Ent.sl mp1).now (fun _ h=>h) hS) q16x jt q16r ?_;intro b17 hb17
     refine drM_s hS ?_;intro w hS
     replace hS:=ro1 hS
     obtain ⟨t13,ht13,h⟩:=bnd h
     obtain rfl:=setF ht13
     refine sto_s hS hb17 q16r ?_;intro w hS
     refine drM_s hS ?_;intro w hS
     refine ⟨_,_,_,hS.cel mp1 rfl,_,_,_,hS.cel mp3 rfl,?_⟩
     obtain ⟨t14,ht14,h⟩:=bnd h
     obtain ⟨z18,rfl,q19x,jc,q19r⟩:=atF ht14
     refine idx_s ((qn.mono tl4).now (fun _ h=>h) hS) q19x jc q19r ?_;intro b20 hb20
     refine ⟨_,rd_get ((qn.mono tl4).now (fun _ h=>h) hS) hb20 q19x,?_⟩
     obtain ⟨t15,ht15,h⟩:=bnd h
     obtain ⟨z21,rfl,q22x,zr,q22r⟩:=atF ht15
     refine idx_s ((Ent.sl mp0).now (fun _ h=>h) hS) q22x zr q22r ?_;intro b23 hb23
     refine drM_s hS ?_;intro w hS
     obtain ⟨t16,ht16,h⟩:=bnd h
     obtain rfl:=setF ht16
     refine sto_s hS hb23 q22r ?_;intro w hS
     refine drM_s hS ?_;intro w hS
     obtain rfl:=some_inj h
     exact hX _ rfl _ _ ⟨_,_,rfl,rfl,(hS.pick (A:=[_,_,_,_]) [1,0,0,0] rfl)⟩
    obtain rfl:=some_inj h
    have h:=congrArg some (hO _ rfl)
    exact hJ10 _ _ ⟨_,some_inj h,rfl,hS⟩
   clear h10 hS
   rintro s w ⟨ja,rfl,rfl,hS⟩
   have h:=c10
   clear c10
   try dsimp only
   obtain rfl:=some_inj h
   exact hX _ rfl _ _ ⟨_,_,rfl,rfl,hS⟩
  obtain rfl:=some_inj h
  have h:=congrArg some (hO _ rfl)
  obtain rfl:=some_inj h
  exact hJ7 _ _ ⟨_,rfl,rfl,(hS.pick (A:=[_,_,_,_]) [0,0,0] rfl)⟩
 clear h7 hS
 rintro s w ⟨vw,rfl,rfl,hS⟩
 have h:=c7
 clear c7
 try dsimp only
 refine ⟨_,hS.cel mp0 rfl,_,hS.cel mp0 rfl,_,_,_,hS.cel mp0 rfl,?_⟩
 replace hS:=ro2 hS
 refine stc_s hS rfl rfl ?_;intro w hS
 refine stc_s hS rfl rfl ?_;intro w hS
 refine stc_s hS rfl rfl ?_;intro w hS
 refine ⟨_,hS.cel mp0 rfl,_,hS.cel mp0 rfl,_,_,_,hS.cel mp0 rfl,?_⟩
 cases some_inj h
 exact hK _ _ _ _ _ rfl (hS.pick (A:=[_,_,_]) [2] rfl)
theorem wk_w12_small {qa qb qe qf qg qp u0 u1 u2} (hS:Ho w0 w L) (qn:EF L qp qe qf qg) (h:T_w12_small qa qb (List.map nf qp)=some (u0,u1,u2)) (hK:∀ (a2:OA) (n2 c2:Nat) (rws2:List Nat) (w1:World),List.map nf rws2=u2→Ho w0 w1 ((sl a2 n2 c2 (List.map (Value.float .f64) rws2) N.t_float64)::L)→K (.agg #[.int .i64 u0,.int .i64 u1,.slice a2 n2 c2]) w1):CallsX P N.f_w12_small #[.agg #[.int .i64 qa,.int .i64 qb,.slice qe qf qg]] w K:=by
 refine H.w12_small qa qb qe qf qg w _ ?_
 unfold S_w12_small
 unfold T_w12_small at h
 try dsimp only
 refine newM_s hS ?_;intro r1 w hS
 refine newM_s hS ?_;intro r2 w hS
 refine ⟨_,hS.cel mp1 rfl,_,hS.cel mp1 rfl,_,_,_,hS.cel mp1 rfl,?_⟩
 obtain ⟨⟨t1,t2,t3⟩,ho1,h⟩:=bnd h
 refine wk_w12_mirrored H hS (qn.mono tl2) ho1 ?_;clear hS ho1;rintro a3 m3 c3 yu w rfl hS
 refine ⟨_,_,_,_,_,rfl,?_⟩
 replace hS:=ro2 hS
 refine stc_s hS rfl rfl ?_;intro w hS
 refine stc_s hS rfl rfl ?_;intro w hS
 refine stc_s hS rfl rfl ?_;intro w hS
 refine ⟨_,hS.cel mp0 rfl,?_⟩
 obtain ⟨t4,ht4,h⟩:=bnd h
 obtain ⟨rfl,kt4⟩:=mkF ht4
 refine mk_s (enc:=(Value.float .f64)) hS kt4 rfl ?_;clear hS kt4;intro r4 w hS
 refine newM_s hS ?_;intro r5 w hS
 refine stc_s hS rfl rfl ?_;intro w hS
 refine stc_s hS rfl rfl ?_;intro w hS
 refine stc_s hS rfl rfl ?_;intro w hS
 obtain ⟨o7,h7,c7⟩:=bnd h
 refine cutM_i (fun s w=>∃ (vw:List Nat),(List.map nf vw)=o7∧s=(())∧Ho w0 w ((cl r5 [.int .i64 (if 8<t1 then 8 else t1),.int .i64 (if 8<t1 then 8 else t1),.slice (some ⟨r4,0,none⟩) (((i64.wrap ((if 8<t1 then 8 else t1)*(if 8<t1 then 8 else t1)))).toNat) (((i64.wrap ((if 8<t1 then 8 else t1)*(if 8<t1 then 8 else t1)))).toNat)] N.t_Matrix)::(sl (some ⟨r4,0,none⟩) (((i64.wrap ((if 8<t1 then 8 else t1)*(if 8<t1 then 8 else t1)))).toNat) (((i64.wrap ((if 8<t1 then 8 else t1)*(if 8<t1 then 8 else t1)))).toNat) (List.map (Value.float .f64) vw) N.t_float64)::(cl r2 [.int .i64 0,.int .i64 0,.slice none 0 0] N.t_Matrix)::L)) (fun J7 hJ7=>?_) ?_
 ·
  have h:=h7
  clear h7
  refine iter_sim (fun s w t=>∃ (t6:Int) (ye:List Nat),(t6,(List.map nf ye))=t∧s=(t6,())∧Ho w0 w ((cl r5 [.int .i64 (if 8<t1 then 8 else t1),.int .i64 (if 8<t1 then 8 else t1),.slice (some ⟨r4,0,none⟩) (((i64.wrap ((if 8<t1 then 8 else t1)*(if 8<t1 then 8 else t1)))).toNat) (((i64.wrap ((if 8<t1 then 8 else t1)*(if 8<t1 then 8 else t1)))).toNat)] N.t_Matrix)::(sl (some ⟨r4,0,none⟩) (((i64.wrap ((if 8<t1 then 8 else t1)*(if 8<t1 then 8 else t1)))).toNat) (((i64.wrap ((if 8<t1 then 8 else t1)*(if 8<t1 then 8 else t1)))).toNat) (List.map (Value.float .f64) ye) N.t_float64)::(cl r1 [.int .i64 t1,.int .i64 t2,.slice a3 m3 c3] N.t_Matrix)::(sl a3 m3 c3 (List.map (Value.float .f64) yu) N.t_float64)::(cl r2 [.int .i64 0,.int .i64 0,.slice none 0 0] N.t_Matrix)::L)) ?_ h ⟨_,_,rfl,rfl,hS⟩
  clear h hS
  rintro s w t X q ⟨t6,ye,rfl,rfl,hS⟩ h hX hO
  unfold T_w12_small_b2 at h
  try dsimp only
  refine cond_s h ?_ ?_<;>intro hc h
  ·
   refine ⟨_,_,_,hS.cel mp0 rfl,?_⟩
   obtain ⟨t9,ht9,h⟩:=bnd h
   obtain rfl:=lenF ht9 ((Ent.sl mp1).now (fun _ h=>h) hS)
   obtain ⟨t8,ht8,h⟩:=bnd h
   obtain ⟨rfl,zk,zl,zm⟩:=subF ht8
   refine ⟨(by first | exact zk | omega),(by first | exact zl | omega),?_⟩
   refine ⟨_,_,_,hS.cel mp2 rfl,_,hS.cel mp2 rfl,_,hS.cel mp2 rfl,?_⟩
   obtain ⟨t10,ht10,h⟩:=bnd h
   obtain ⟨rfl,yr,vz,vu⟩:=subF ht10
   have jw:=((Ent.sl mp3).now (fun _ h=>h) hS).hiCap vu
   refine ⟨Int.le_trans yr vz,jw,yr,vz,?_⟩
   refine drM_s hS ?_;intro w hS
   replace hS:=ro1 hS
   obtain ⟨t11,ht11,h⟩:=bnd h
   obtain rfl:=copAtF ht11
   refine cop_at hS ((Ent.part (Ent.sl mp3) yr vz vu).now (fun _ h=>h) hS) (fun _=>rfl) (by omega) ?_;intro w hS
   refine drM_s hS ?_;intro w hS
   obtain rfl:=some_inj h
   exact hX _ rfl _ _ ⟨_,_,rfl,rfl,(hS.pick (A:=[_,_,_,_,_]) [1,0,0,0,0] rfl)⟩
  obtain rfl:=some_inj h
  have h:=congrArg some (hO _ rfl)
  obtain rfl:=some_inj h
  exact hJ7 _ _ ⟨_,rfl,rfl,(hS.pick (A:=[_,_,_,_,_]) [0,0,2] rfl)⟩
 clear h7 hS
 rintro s w ⟨vw,rfl,rfl,hS⟩
 have h:=c7
 clear c7
 try dsimp only
 refine ⟨_,hS.cel mp0 rfl,_,hS.cel mp0 rfl,_,_,_,hS.cel mp0 rfl,?_⟩
 replace hS:=ro2 hS
 refine stc_s hS rfl rfl ?_;intro w hS
 refine stc_s hS rfl rfl ?_;intro w hS
 refine stc_s hS rfl rfl ?_;intro w hS
 refine ⟨_,hS.cel mp0 rfl,_,hS.cel mp0 rfl,_,_,_,hS.cel mp0 rfl,?_⟩
 cases some_inj h
 exact hK _ _ _ _ _ rfl (hS.pick (A:=[_,_,_]) [2] rfl)
theorem wk_bn_NewInt {q0 u0} (hS:Ho w0 w L)  (h:T_bn_NewInt q0=some u0) (hK:∀ (r0:Nat) (a0:OA) (n0 c0:Nat) (w1:World),Ho w0 w1 ((bg N.t_bn_Int N.t_uint32 r0 a0 n0 c0 u0)::L)→K (.pointer (some ⟨r0,0,none⟩)) w1):CallsX P N.f_bn_NewInt #[.int .i64 q0] w K:=by
 refine H.bn_NewInt q0 w _ ?_
 unfold S_bn_NewInt
 unfold T_bn_NewInt at h
 try dsimp only
 refine newM_s hS ?_;intro r1 w hS;replace hS:=Ho.bgNew (E:=N.t_uint32) hS
 obtain ⟨t1,ht1,h⟩:=bnd h
 refine big_SetInt64_z H hS  ht1 ?_;intro a2 m2 c2 w hS
 refine ⟨_,rfl,?_⟩
 cases some_inj h
 exact hK _ _ _ _ _ hS
theorem wk_dyad_limbs {q0 q0a qm qs y0 u0} (hS:Ho w0 w L) (qv:Ent L (bgR N.t_bn_Int q0 q0a qm qs y0)) (h:T_dyad_limbs y0=some u0) (hK:∀ (a0:OA) (n0 c0:Nat) (w1:World),Ho w0 w1 ((sl a0 n0 c0 (List.map (Value.int .u64) u0) N.t_uint64)::L)→K (.slice a0 n0 c0) w1):CallsX P N.f_dyad_limbs #[.pointer (some ⟨q0,0,none⟩)] w K:=by
 refine H.dyad_limbs (some ⟨q0,0,none⟩) w _ ?_
 unfold S_dyad_limbs
 unfold T_dyad_limbs at h
 try dsimp only
 refine newM_s hS ?_;intro r1 w hS;replace hS:=Ho.bgNew (E:=N.t_uint32) hS
 obtain ⟨t1,ht1,h⟩:=bnd h
 refine big_Abs_zx H hS qv ht1 ?_;intro a2 m2 c2 w hS
 refine ⟨_,rfl,?_⟩
 refine newM_s hS ?_;intro r3 w hS;replace hS:=Ho.bgNew (E:=N.t_uint32) hS
 refine newM_s hS ?_;intro r4 w hS;replace hS:=Ho.bgNew (E:=N.t_uint32) hS
 obtain ⟨t2,ht2,h⟩:=bnd h
 refine big_SetUint64_z H hS  ht2 ?_;intro a5 m5 c5 w hS
 refine ⟨_,rfl,?_⟩
 obtain ⟨o9,h9,c9⟩:=bnd h
 refine cutM_i (fun s w=>∃ (a6:OA) (m7:Nat) (c8:Nat) (t3:List Int),t3=o9∧s=((a6,m7,c8),())∧Ho w0 w ((sl a6 m7 c8 (List.map (Value.int .u64) t3) N.t_uint64)::L)) (fun J9 hJ9=>?_) ?_
 ·
  have h:=h9
  clear h9
  replace hS:=hS.none (α:=Int) (enc:=(Value.int .u64)) (t:=N.t_uint64)
  refine iter_sim (fun s w t=>∃ (a10:OA) (m11:Nat) (c12:Nat) (t4:Int) (a13:OA) (m14:Nat) (c15:Nat) (t5:Int) (a16:OA) (m17:Nat) (c18:Nat) (t6:List Int),(t4,t5,t6)=t∧s=((a16,m17,c18),())∧Ho w0 w ((bg N.t_bn_Int N.t_uint32 r4 a5 m5 c5 t2)::(bg N.t_bn_Int N.t_uint32 r3 a10 m11 c12 t4)::(bg N.t_bn_Int N.t_uint32 r1 a13 m14 c15 t5)::(sl a16 m17 c18 (List.map (Value.int .u64) t6) N.t_uint64)::L)) ?_ h ⟨_,_,_,_,_,_,_,_,_,_,_,_,rfl,rfl,(hS.pick (A:=[_,_,_,_]) [1,1,1,0] rfl)⟩
  clear h hS
  rintro s w t X q ⟨a10,m11,c12,t4,a13,m14,c15,t5,a16,m17,c18,t6,rfl,rfl,hS⟩ h hX hO
  unfold T_dyad_limbs_b2 at h
  try dsimp only
  obtain ⟨t7,ht7,h⟩:=bnd h
  refine big_Sign_x H hS (Ent.bg mp2) ht7 ?_;intro w hS
  refine ⟨_,rfl,?_⟩
  refine cond_s h ?_ ?_<;>intro hc h
  ·
   obtain ⟨t8,ht8,h⟩:=bnd h
   replace hS:=ro1 hS
   refine big_And_zxy H hS (Ent.bg mp1) (Ent.bg mp0) ht8 ?_;intro a19 m19 c19 w hS
   refine ⟨_,rfl,?_⟩
   obtain ⟨t9,ht9,h⟩:=bnd h
   refine big_Uint64_x H hS (Ent.bg mp0) ht9 ?_;intro w hS
   refine ⟨_,rfl,?_⟩
   obtain ⟨t10,ht10,h⟩:=bnd h
   obtain rfl:([t9]:List Int)=t10:=some_inj ht10
   refine lit_s (ks:=[t9]) (enc:=(Value.int .u64)) (m:=1) hS rfl rfl ?_;intro r20 w hS
   obtain ⟨t11,ht11,h⟩:=bnd h
   obtain ⟨rfl,kt11⟩:=appE ht11
   replace hS:=ro4 hS
   refine app_s hS kt11 ((Ent.sl mp1).now (fun _ h=>h) hS) (fun _=>rfl) rfl ?_;clear hS kt11;intro a21 c21 w hS
   obtain ⟨t12,ht12,h⟩:=bnd h
   replace hS:=ro4 hS
   refine big_Rsh_zz H hS  ht12 ?_;intro a22 m22 c22 w hS
   refine ⟨_,rfl,?_⟩
   obtain rfl:=some_inj h
   exact hX _ rfl _ _ ⟨_,_,_,_,_,_,_,_,_,_,_,_,rfl,rfl,(hS.pick (A:=[_,_,_,_,_]) [4,3,0,0] rfl)⟩
  obtain rfl:=some_inj h
  have h:=congrArg some (hO _ rfl)
  obtain rfl:=some_inj h
  exact hJ9 _ _ ⟨_,_,_,_,rfl,rfl,(hS.pick (A:=[_,_,_,_]) [3] rfl)⟩
 clear h9 hS
 rintro s w ⟨a6,m7,c8,t3,rfl,rfl,hS⟩
 have h:=c9
 clear c9
 try dsimp only
 cases some_inj h
 exact hK _ _ _ _ hS
theorem wk_dyad_made {q0 q0a qm qs y0 q1 u0 u1 u2 u3} (hS:Ho w0 w L) (qv:Ent L (bgR N.t_bn_Int q0 q0a qm qs y0)) (h:T_dyad_made y0 q1=some (u0,u1,u2,u3)) (hK:∀ (a1:OA) (n1 c1:Nat) (w1:World),Ho w0 w1 ((sl a1 n1 c1 (List.map (Value.int .u64) u1) N.t_uint64)::L)→K (.tuple #[.agg #[.bool u0,.slice a1 n1 c1,.int .i64 u2],.int .i64 u3]) w1):CallsX P N.f_dyad_made #[.pointer (some ⟨q0,0,none⟩),.int .i64 q1] w K:=by
 refine H.dyad_made (some ⟨q0,0,none⟩) q1 w _ ?_
 unfold S_dyad_made
 unfold T_dyad_made at h
 try dsimp only
 refine newM_s hS ?_;intro r1 w hS
 obtain ⟨t1,ht1,h⟩:=bnd h
 refine big_Sign_x H hS (qv.mono tl1) ht1 ?_;intro w hS
 refine ⟨_,rfl,?_⟩
 refine cond_s h ?_ ?_<;>intro hc h
 ·
  refine stc_s hS rfl rfl ?_;intro w hS
  refine stc_s hS rfl rfl ?_;intro w hS
  refine stc_s hS rfl rfl ?_;intro w hS
  refine ⟨_,hS.cel mp0 rfl,_,_,_,hS.cel mp0 rfl,_,hS.cel mp0 rfl,?_⟩
  replace hS:=hS.none (α:=Int) (enc:=(Value.int .u64)) (t:=N.t_uint64)
  cases some_inj h
  exact hK _ _ _ _ (hS.pick (A:=[_,_]) [0] rfl)
 obtain ⟨t2,ht2,h⟩:=bnd h
 refine big_TrailingZeroBits_x H hS (qv.mono tl1) ht2 ?_;intro w hS
 refine ⟨_,rfl,?_⟩
 refine cond_s h ?_ ?_<;>intro hc h
 ·
  refine stc_s hS rfl rfl ?_;intro w hS
  refine stc_s hS rfl rfl ?_;intro w hS
  refine stc_s hS rfl rfl ?_;intro w hS
  refine ⟨_,hS.cel mp0 rfl,_,_,_,hS.cel mp0 rfl,_,hS.cel mp0 rfl,?_⟩
  replace hS:=hS.none (α:=Int) (enc:=(Value.int .u64)) (t:=N.t_uint64)
  cases some_inj h
  exact hK _ _ _ _ (hS.pick (A:=[_,_]) [0] rfl)
 refine cond_s h ?_ ?_<;>intro hc h
 ·
  refine stc_s hS rfl rfl ?_;intro w hS
  refine stc_s hS rfl rfl ?_;intro w hS
  refine stc_s hS rfl rfl ?_;intro w hS
  refine ⟨_,hS.cel mp0 rfl,_,_,_,hS.cel mp0 rfl,_,hS.cel mp0 rfl,?_⟩
  replace hS:=hS.none (α:=Int) (enc:=(Value.int .u64)) (t:=N.t_uint64)
  cases some_inj h
  exact hK _ _ _ _ (hS.pick (A:=[_,_]) [0] rfl)
 refine cond_s h ?_ ?_<;>intro hc h
 ·
  refine stc_s hS rfl rfl ?_;intro w hS
  refine stc_s hS rfl rfl ?_;intro w hS
  refine stc_s hS rfl rfl ?_;intro w hS
  refine ⟨_,hS.cel mp0 rfl,_,_,_,hS.cel mp0 rfl,_,hS.cel mp0 rfl,?_⟩
  replace hS:=hS.none (α:=Int) (enc:=(Value.int .u64)) (t:=N.t_uint64)
  cases some_inj h
  exact hK _ _ _ _ (hS.pick (A:=[_,_]) [0] rfl)
 obtain ⟨t3,ht3,h⟩:=bnd h
 refine big_BitLen_x H hS (qv.mono tl1) ht3 ?_;intro w hS
 refine ⟨_,rfl,?_⟩
 refine cond_s h ?_ ?_<;>intro hc h
 ·
  refine stc_s hS rfl rfl ?_;intro w hS
  refine stc_s hS rfl rfl ?_;intro w hS
  refine stc_s hS rfl rfl ?_;intro w hS
  refine ⟨_,hS.cel mp0 rfl,_,_,_,hS.cel mp0 rfl,_,hS.cel mp0 rfl,?_⟩
  replace hS:=hS.none (α:=Int) (enc:=(Value.int .u64)) (t:=N.t_uint64)
  cases some_inj h
  exact hK _ _ _ _ (hS.pick (A:=[_,_]) [0] rfl)
 obtain ⟨t4,ht4,h⟩:=bnd h
 refine big_Sign_x H hS (qv.mono tl1) ht4 ?_;intro w hS
 refine ⟨_,rfl,?_⟩
 refine newM_s hS ?_;intro r2 w hS;replace hS:=Ho.bgNew (E:=N.t_uint32) hS
 refine newM_s hS ?_;intro r3 w hS;replace hS:=Ho.bgNew (E:=N.t_uint32) hS
 obtain ⟨t5,ht5,h⟩:=bnd h
 refine big_Abs_zx H hS (qv.mono tl2) ht5 ?_;intro a4 m4 c4 w hS
 refine ⟨_,rfl,?_⟩
 obtain ⟨t6,ht6,h⟩:=bnd h
 replace hS:=ro1 hS
 refine big_Rsh_zx H hS (Ent.bg mp0) ht6 ?_;intro a5 m5 c5 w hS
 refine ⟨_,rfl,?_⟩
 obtain ⟨t7,ht7,h⟩:=bnd h
 refine wk_dyad_limbs H hS (Ent.bg mp0) ht7 ?_;rintro a6 m6 c6 w hS
 refine ⟨_,_,_,rfl,?_⟩
 replace hS:=ro3 hS
 refine stc_s hS rfl rfl ?_;intro w hS
 refine stc_s hS rfl rfl ?_;intro w hS
 refine stc_s hS rfl rfl ?_;intro w hS
 refine ⟨_,hS.cel mp0 rfl,_,_,_,hS.cel mp0 rfl,_,hS.cel mp0 rfl,?_⟩
 cases some_inj h
 exact hK _ _ _ _ (hS.pick (A:=[_,_,_,_]) [1] rfl)
theorem wk_dyad_Int {q0 u0 u1 u2} (hS:Ho w0 w L)  (h:T_dyad_Int q0=some (u0,u1,u2)) (hK:∀ (a1:OA) (n1 c1:Nat) (w1:World),Ho w0 w1 ((sl a1 n1 c1 (List.map (Value.int .u64) u1) N.t_uint64)::L)→K (.agg #[.bool u0,.slice a1 n1 c1,.int .i64 u2]) w1):CallsX P N.f_dyad_Int #[.int .i64 q0] w K:=by
 refine H.dyad_Int q0 w _ ?_
 unfold S_dyad_Int
 unfold T_dyad_Int at h
 try dsimp only
 refine newM_s hS ?_;intro r1 w hS
 obtain ⟨t1,ht1,h⟩:=bnd h
 refine wk_bn_NewInt H hS  ht1 ?_;rintro r2 a2 m2 c2 w hS
 refine ⟨_,rfl,?_⟩
 obtain ⟨⟨t2,t3,t4,t5⟩,ho2,h⟩:=bnd h
 refine wk_dyad_made H hS (Ent.bg mp0) ho2 ?_;clear hS ho2;rintro a3 m3 c3 w hS
 refine ⟨_,_,_,_,_,_,rfl,?_⟩
 refine newM_s hS ?_;intro r4 w hS
 refine stc_s hS rfl rfl ?_;intro w hS
 refine stc_s hS rfl rfl ?_;intro w hS
 refine stc_s hS rfl rfl ?_;intro w hS
 refine ⟨_,hS.cel mp0 rfl,_,_,_,hS.cel mp0 rfl,_,hS.cel mp0 rfl,?_⟩
 replace hS:=ro3 hS
 refine stc_s hS rfl rfl ?_;intro w hS
 refine stc_s hS rfl rfl ?_;intro w hS
 refine stc_s hS rfl rfl ?_;intro w hS
 refine ⟨_,hS.cel mp0 rfl,_,_,_,hS.cel mp0 rfl,_,hS.cel mp0 rfl,?_⟩
 cases some_inj h
 exact hK _ _ _ _ (hS.pick (A:=[_,_,_,_]) [2] rfl)
theorem wk_w12_at {qa qb qc qd qx qe qf qg qp q1 q2 u0} (hS:Ho w0 w L) (qh:EF L qx qb qc qd) (qn:EF L qp qe qf qg) (h:T_w12_at qa (List.map nf qx) (List.map nf qp) q1 q2=some u0) (hK:∀ (z0:Nat) (w1:World),nf z0=u0→Ho w0 w1 L→K (.float .f64 z0) w1):CallsX P N.f_w12_at #[.agg #[.int .i64 qa,.slice qb qc qd,.slice qe qf qg],.int .i64 q1,.int .i64 q2] w K:=by
 refine H.w12_at qa qb qc qd qe qf qg q1 q2 w _ ?_
 unfold S_w12_at
 unfold T_w12_at at h
 try dsimp only
 refine newM_s hS ?_;intro r1 w hS
 refine cond_s h ?_ ?_<;>intro hc h
 ·
  cases some_inj h
  exact hK _ _ rfl (hS.pick (A:=[_]) [] rfl)
 refine ⟨_,_,_,hS.cel mp0 rfl,?_⟩
 refine ⟨by decide,?_⟩
 obtain ⟨t1,ht1,h⟩:=bnd h
 obtain ⟨z2,rfl,q3x,vm,q3r⟩:=atF ht1
 refine idx_s ((qh.mono tl1).now (fun _ h=>h) hS) q3x vm q3r ?_;intro b4 hb4
 refine ⟨_,rd_get ((qh.mono tl1).now (fun _ h=>h) hS) hb4 q3x,?_⟩
 cases some_inj h
 exact hK _ _ rfl (hS.pick (A:=[_]) [] rfl)
theorem wk_bits_Kind {q0 u0} (hS:Ho w0 w L)  (h:T_bits_Kind (nf q0)=some u0) (hK:∀ w1,Ho w0 w1 L→K (.int .i64 u0) w1):CallsX P N.f_bits_Kind #[.float .f64 q0] w K:=by
 refine H.bits_Kind q0 w _ ?_
 unfold S_bits_Kind
 unfold T_bits_Kind at h
 try dsimp only
 obtain ⟨t1,ht1,h⟩:=bnd h
 refine wk_math_Abs H hS  ht1 ?_;rintro z1 w rfl hS
 refine ⟨_,rfl,?_⟩
 obtain ⟨t2,ht2,h⟩:=bnd h
 obtain rfl:=fne_s ht2
 refine cond_s h ?_ ?_<;>intro hc h
 ·
  cases some_inj h
  exact hK _ hS
 obtain ⟨t3,ht3,h⟩:=bnd h
 refine wk_math_IsInf H hS  ht3 ?_;rintro w hS
 refine ⟨_,rfl,?_⟩
 refine cond_s h ?_ ?_<;>intro hc h
 ·
  cases some_inj h
  exact hK _ hS
 obtain ⟨t4,ht4,h⟩:=bnd h
 obtain rfl:=fge_s ht4
 refine cond_s h ?_ ?_<;>intro hc h
 ·
  cases some_inj h
  exact hK _ hS
 obtain ⟨t5,ht5,h⟩:=bnd h
 obtain rfl:=fgt_s ht5
 refine cond_s h ?_ ?_<;>intro hc h
 ·
  cases some_inj h
  exact hK _ hS
 cases some_inj h
 exact hK _ hS
theorem wk_math_Signbit {q0 u0} (hS:Ho w0 w L)  (hx:T_math_Signbit (nf q0)=some u0) (hK:∀ w1,Ho w0 w1 L→K (.bool u0) w1):CallsX P N.f_math_Signbit #[.float .f64 q0] w K:=by
 unfold T_math_Signbit at hx
 have hn:isNaN q0=false:=by
  cases e:isNaN q0 with
  | false=>rfl
  | true=>rw [isNaN_nf,e] at hx;cases hx
 rw [isNaN_nf,hn,nf_of_not hn] at hx
 have hx:=some_inj hx
 subst hx
 refine (signbit_c H q0 w).mono ?_
 rintro _ w1 ⟨rfl,h1⟩
 exact hK _ (hS.next h1)
theorem wk_math_normalize {q0 u0 u1} (hS:Ho w0 w L)  (h:T_math_normalize (nf q0)=some (u0,u1)) (hK:∀ (z0:Nat) (w1:World),nf z0=u0→Ho w0 w1 L→K (.tuple #[.float .f64 z0,.int .i64 u1]) w1):CallsX P N.f_math_normalize #[.float .f64 q0] w K:=by
 refine H.math_normalize q0 w _ ?_
 unfold S_math_normalize
 unfold T_math_normalize at h
 try dsimp only
 obtain ⟨t1,ht1,h⟩:=bnd h
 refine wk_math_Abs H hS  ht1 ?_;rintro z1 w rfl hS
 refine ⟨_,rfl,?_⟩
 obtain ⟨t2,ht2,h⟩:=bnd h
 obtain rfl:=flt_s ht2
 refine cond_s h ?_ ?_<;>intro hc h
 ·
  obtain ⟨t3,ht3,h⟩:=bnd h
  refine fmul_s ht3 hS ?_;rintro z2 w rfl hS
  cases some_inj h
  exact hK _ _ rfl hS
 cases some_inj h
 exact hK _ _ rfl hS
theorem wk_math_frexp {q0 u0 u1} (hS:Ho w0 w L)  (h:T_math_frexp (nf q0)=some (u0,u1)) (hK:∀ (z0:Nat) (w1:World),nf z0=u0→Ho w0 w1 L→K (.tuple #[.float .f64 z0,.int .i64 u1]) w1):CallsX P N.f_math_frexp #[.float .f64 q0] w K:=by
 refine H.math_frexp q0 w _ ?_
 unfold S_math_frexp
 unfold T_math_frexp at h
 try dsimp only
 obtain ⟨t1,ht1,h⟩:=bnd h
 obtain rfl:=feq_s ht1
 refine cond_s h ?_ ?_<;>intro hc h
 ·
  cases some_inj h
  exact hK _ _ rfl hS
 obtain ⟨t2,ht2,h⟩:=bnd h
 refine wk_math_IsInf H hS  ht2 ?_;rintro w hS
 refine ⟨_,rfl,?_⟩
 refine cond_s h ?_ ?_<;>intro hc h
 ·
  obtain ⟨t3,ht3,h⟩:=bnd h
  refine wk_math_IsNaN H hS  ht3 ?_;rintro w hS
  refine ⟨_,rfl,?_⟩
  refine cond_s h ?_ ?_<;>intro hc h
  ·
   cases some_inj h
   exact hK _ _ rfl hS
  obtain ⟨⟨t4,t5⟩,ho4,h⟩:=bnd h
  refine wk_math_normalize H hS  ho4 ?_;clear hS ho4;rintro z1 w rfl hS
  refine ⟨_,_,rfl,?_⟩
  obtain ⟨t6,ht6,h⟩:=bnd h
  refine wk_math_Float64bits H hS  ht6 ?_;rintro w hS
  refine ⟨_,rfl,?_⟩
  refine ⟨by decide,?_⟩
  obtain ⟨t7,ht7,h⟩:=bnd h
  refine wk_math_Float64frombits H hS  ht7 ?_;rintro z2 w rfl hS
  refine ⟨_,rfl,?_⟩
  cases some_inj h
  exact hK _ _ rfl hS
 cases some_inj h
 exact hK _ _ rfl hS
theorem wk_math_Frexp {q0 u0 u1} (hS:Ho w0 w L)  (h:T_math_Frexp (nf q0)=some (u0,u1)) (hK:∀ (z0:Nat) (w1:World),nf z0=u0→Ho w0 w1 L→K (.tuple #[.float .f64 z0,.int .i64 u1]) w1):CallsX P N.f_math_Frexp #[.float .f64 q0] w K:=by
 refine H.math_Frexp q0 w _ ?_
 unfold S_math_Frexp
 unfold T_math_Frexp at h
 try dsimp only
 obtain ⟨⟨t1,t2⟩,ho1,h⟩:=bnd h
 refine wk_math_frexp H hS  ho1 ?_;clear hS ho1;rintro z1 w rfl hS
 refine ⟨_,_,rfl,?_⟩
 cases some_inj h
 exact hK _ _ rfl hS
theorem wk_math_Copysign {q0 q1 u0} (hS:Ho w0 w L)  (hx:T_math_Copysign (nf q0) (nf q1)=some u0) (hK:∀ (z0:Nat) (w1:World),nf z0=u0→Ho w0 w1 L→K (.float .f64 z0) w1):CallsX P N.f_math_Copysign #[.float .f64 q0,.float .f64 q1] w K:=by
 unfold T_math_Copysign at hx
 have hn:isNaN q1=false:=by
  cases e:isNaN q1 with
  | false=>rfl
  | true=>rw [isNaN_nf,e] at hx;cases hx
 rw [isNaN_nf,hn,nf_of_not hn] at hx
 have hx:=some_inj hx
 refine (copysign_c H q0 q1 w).mono ?_
 rintro _ w1 ⟨rfl,h1⟩
 exact hK _ _ ((nf_copy _ _).symm.trans hx) (hS.next h1)
theorem wk_math_Inf {q0 u0} (hS:Ho w0 w L)  (h:T_math_Inf q0=some u0) (hK:∀ (z0:Nat) (w1:World),nf z0=u0→Ho w0 w1 L→K (.float .f64 z0) w1):CallsX P N.f_math_Inf #[.int .i64 q0] w K:=by
 refine H.math_Inf q0 w _ ?_
 unfold S_math_Inf
 unfold T_math_Inf at h
 try dsimp only
 obtain ⟨o1,h1,c1⟩:=bnd h
 refine cutM_i (fun s w=>∃ (t1:Int),t1=o1∧s=(t1,())∧Ho w0 w L) (fun J1 hJ1=>?_) ?_
 ·
  have h:=h1
  clear h1
  refine cond_s h ?_ ?_<;>intro hc h
  ·
   exact hJ1 _ _ ⟨_,some_inj h,rfl,hS⟩
  exact hJ1 _ _ ⟨_,some_inj h,rfl,hS⟩
 clear h1 hS
 rintro s w ⟨t1,rfl,rfl,hS⟩
 have h:=c1
 clear c1
 try dsimp only
 obtain ⟨t2,ht2,h⟩:=bnd h
 refine wk_math_Float64frombits H hS  ht2 ?_;rintro z2 w rfl hS
 refine ⟨_,rfl,?_⟩
 cases some_inj h
 exact hK _ _ rfl hS
theorem wk_math_ldexp {q0 q1 u0} (hS:Ho w0 w L)  (h:T_math_ldexp (nf q0) q1=some u0) (hK:∀ (z0:Nat) (w1:World),nf z0=u0→Ho w0 w1 L→K (.float .f64 z0) w1):CallsX P N.f_math_ldexp #[.float .f64 q0,.int .i64 q1] w K:=by
 refine H.math_ldexp q0 q1 w _ ?_
 unfold S_math_ldexp
 unfold T_math_ldexp at h
 try dsimp only
 obtain ⟨t1,ht1,h⟩:=bnd h
 obtain rfl:=feq_s ht1
 refine cond_s h ?_ ?_<;>intro hc h
 ·
  cases some_inj h
  exact hK _ _ rfl hS
 obtain ⟨o1,h1,c1⟩:=bnd h
 refine cutM_i (fun s w=>∃ (t2:Bool),t2=o1∧s=(t2,())∧Ho w0 w L) (fun J1 hJ1=>?_) ?_
 ·
  have h:=h1
  clear h1
  obtain ⟨t3,ht3,h⟩:=bnd h
  refine wk_math_IsInf H hS  ht3 ?_;rintro w hS
  refine ⟨_,rfl,?_⟩
  refine cond_s h ?_ ?_<;>intro hc h
  ·
   obtain ⟨t4,ht4,h⟩:=bnd h
   refine wk_math_IsNaN H hS  ht4 ?_;rintro w hS
   refine ⟨_,rfl,?_⟩
   exact hJ1 _ _ ⟨_,some_inj h,rfl,hS⟩
  exact hJ1 _ _ ⟨_,some_inj h,rfl,hS⟩
 clear h1 hS
 rintro s w ⟨t2,rfl,rfl,hS⟩
 have h:=c1
 clear c1
 try dsimp only
 refine cond_s h ?_ ?_<;>intro hc h
 ·
  cases some_inj h
  exact hK _ _ rfl hS
 obtain ⟨⟨t5,t6⟩,ho5,h⟩:=bnd h
 refine wk_math_normalize H hS  ho5 ?_;clear hS ho5;rintro z2 w rfl hS
 refine ⟨_,_,rfl,?_⟩
 obtain ⟨t7,ht7,h⟩:=bnd h
 refine wk_math_Float64bits H hS  ht7 ?_;rintro w hS
 refine ⟨_,rfl,?_⟩
 refine ⟨by decide,?_⟩
 refine cond_s h ?_ ?_<;>intro hc h
 ·
  obtain ⟨t8,ht8,h⟩:=bnd h
  refine wk_math_Copysign H hS  ht8 ?_;rintro z3 w rfl hS
  refine ⟨_,rfl,?_⟩
  cases some_inj h
  exact hK _ _ rfl hS
 refine cond_s h ?_ ?_<;>intro hc h
 ·
  obtain ⟨t9,ht9,h⟩:=bnd h
  obtain rfl:=flt_s ht9
  refine cond_s h ?_ ?_<;>intro hc h
  ·
   obtain ⟨t10,ht10,h⟩:=bnd h
   refine wk_math_Inf H hS  ht10 ?_;rintro z4 w rfl hS
   refine ⟨_,rfl,?_⟩
   cases some_inj h
   exact hK _ _ rfl hS
  obtain ⟨t11,ht11,h⟩:=bnd h
  refine wk_math_Inf H hS  ht11 ?_;rintro z5 w rfl hS
  refine ⟨_,rfl,?_⟩
  cases some_inj h
  exact hK _ _ rfl hS
 obtain ⟨o7,h7,c7⟩:=bnd h
 refine cutM_i (fun s w=>∃ (t12:Int) (z6:Nat),(t12,(nf z6))=o7∧s=(t12,z6,())∧Ho w0 w L) (fun J7 hJ7=>?_) ?_
 ·
  have h:=h7
  clear h7
  refine cond_s h ?_ ?_<;>intro hc h
  ·
   exact hJ7 _ _ ⟨_,_,some_inj h,rfl,hS⟩
  exact hJ7 _ _ ⟨_,_,some_inj h,rfl,hS⟩
 clear h7 hS
 rintro s w ⟨t12,z6,rfl,rfl,hS⟩
 have h:=c7
 clear c7
 try dsimp only
 refine ⟨by decide,?_⟩
 obtain ⟨t14,ht14,h⟩:=bnd h
 refine wk_math_Float64frombits H hS  ht14 ?_;rintro z8 w rfl hS
 refine ⟨_,rfl,?_⟩
 obtain ⟨t15,ht15,h⟩:=bnd h
 refine fmul_s ht15 hS ?_;rintro z9 w rfl hS
 cases some_inj h
 exact hK _ _ rfl hS
theorem wk_math_Ldexp {q0 q1 u0} (hS:Ho w0 w L)  (h:T_math_Ldexp (nf q0) q1=some u0) (hK:∀ (z0:Nat) (w1:World),nf z0=u0→Ho w0 w1 L→K (.float .f64 z0) w1):CallsX P N.f_math_Ldexp #[.float .f64 q0,.int .i64 q1] w K:=by
 refine H.math_Ldexp q0 q1 w _ ?_
 unfold S_math_Ldexp
 unfold T_math_Ldexp at h
 try dsimp only
 obtain ⟨t1,ht1,h⟩:=bnd h
 refine wk_math_ldexp H hS  ht1 ?_;rintro z1 w rfl hS
 refine ⟨_,rfl,?_⟩
 cases some_inj h
 exact hK _ _ rfl hS
theorem wk_math_bits_TrailingZeros64 {q0 u0} (hS:Ho w0 w L) (hG:Ent L (tab64 N.g_1)) (hx:T_math_bits_TrailingZeros64 q0=some u0) (hK:∀ w1,Ho w0 w1 L→K (.int .i64 u0) w1):CallsX P N.f_math_bits_TrailingZeros64 #[.int .u64 q0] w K:=by
 unfold T_math_bits_TrailingZeros64 at hx
 have hx:=some_inj hx
 subst hx
 exact tz64_c H hS hG hK
theorem wk_bits_Split {q0 u0 u1 u2 u3} (hS:Ho w0 w L) (hG:Ent L (tab64 N.g_1)) (h:T_bits_Split (nf q0)=some (u0,u1,u2,u3)) (hK:∀ w1,Ho w0 w1 L→K (.tuple #[.agg #[.bool u0,.int .u64 u1,.int .i64 u2],.bool u3]) w1):CallsX P N.f_bits_Split #[.float .f64 q0] w K:=by
 refine H.bits_Split q0 w _ ?_
 unfold S_bits_Split
 unfold T_bits_Split at h
 try dsimp only
 refine newM_s hS ?_;intro r1 w hS
 obtain ⟨t1,ht1,h⟩:=bnd h
 refine wk_bits_Kind H hS  ht1 ?_;rintro w hS
 refine ⟨_,rfl,?_⟩
 refine cond_s h ?_ ?_<;>intro hc h
 ·
  refine stc_s hS rfl rfl ?_;intro w hS
  refine stc_s hS rfl rfl ?_;intro w hS
  refine stc_s hS rfl rfl ?_;intro w hS
  refine ⟨_,hS.cel mp0 rfl,_,hS.cel mp0 rfl,_,hS.cel mp0 rfl,?_⟩
  cases some_inj h
  exact hK _ (hS.pick (A:=[_]) [] rfl)
 obtain ⟨t2,ht2,h⟩:=bnd h
 refine wk_math_Signbit H hS  ht2 ?_;rintro w hS
 refine ⟨_,rfl,?_⟩
 refine newM_s hS ?_;intro r2 w hS
 refine stc_s hS rfl rfl ?_;intro w hS
 refine stc_s hS rfl rfl ?_;intro w hS
 refine stc_s hS rfl rfl ?_;intro w hS
 obtain ⟨t3,ht3,h⟩:=bnd h
 obtain rfl:=feq_s ht3
 refine cond_s h ?_ ?_<;>intro hc h
 ·
  refine ⟨_,hS.cel mp0 rfl,_,hS.cel mp0 rfl,_,hS.cel mp0 rfl,?_⟩
  replace hS:=ro1 hS
  refine stc_s hS rfl rfl ?_;intro w hS
  refine stc_s hS rfl rfl ?_;intro w hS
  refine stc_s hS rfl rfl ?_;intro w hS
  refine ⟨_,hS.cel mp0 rfl,_,hS.cel mp0 rfl,_,hS.cel mp0 rfl,?_⟩
  cases some_inj h
  exact hK _ (hS.pick (A:=[_,_]) [] rfl)
 obtain ⟨t4,ht4,h⟩:=bnd h
 refine wk_math_Abs H hS  ht4 ?_;rintro z3 w rfl hS
 refine ⟨_,rfl,?_⟩
 obtain ⟨⟨t5,t6⟩,ho5,h⟩:=bnd h
 refine wk_math_Frexp H hS  ho5 ?_;clear hS ho5;rintro z4 w rfl hS
 refine ⟨_,_,rfl,?_⟩
 obtain ⟨t7,ht7,h⟩:=bnd h
 refine wk_math_Ldexp H hS  ht7 ?_;rintro z5 w rfl hS
 refine ⟨_,rfl,?_⟩
 obtain ⟨t8,ht8,h⟩:=bnd h
 refine f2i_s ht8 hS ?_;intro w hS
 refine stc_s hS rfl rfl ?_;intro w hS
 refine ⟨_,hS.cel mp0 rfl,?_⟩
 obtain ⟨t9,ht9,h⟩:=bnd h
 refine wk_math_bits_TrailingZeros64 H hS (hG.mono tl2) ht9 ?_;rintro w hS
 refine ⟨_,rfl,?_⟩
 refine ⟨_,hS.cel mp0 rfl,?_⟩
 obtain ⟨t10,ht10,h⟩:=bnd h
 refine ⟨nn_s ht10,?_⟩
 refine stc_s hS rfl rfl ?_;intro w hS
 refine stc_s hS rfl rfl ?_;intro w hS
 refine ⟨_,hS.cel mp0 rfl,_,hS.cel mp0 rfl,_,hS.cel mp0 rfl,?_⟩
 replace hS:=ro1 hS
 refine stc_s hS rfl rfl ?_;intro w hS
 refine stc_s hS rfl rfl ?_;intro w hS
 refine stc_s hS rfl rfl ?_;intro w hS
 refine ⟨_,hS.cel mp0 rfl,_,hS.cel mp0 rfl,_,hS.cel mp0 rfl,?_⟩
 cases some_inj h
 exact hK _ (hS.pick (A:=[_,_]) [] rfl)
theorem wk_dyad_Of {q0 u0 u1 u2 u3} (hS:Ho w0 w L) (hG:Ent L (tab64 N.g_1)) (h:T_dyad_Of (nf q0)=some (u0,u1,u2,u3)) (hK:∀ (a1:OA) (n1 c1:Nat) (w1:World),Ho w0 w1 ((sl a1 n1 c1 (List.map (Value.int .u64) u1) N.t_uint64)::L)→K (.tuple #[.agg #[.bool u0,.slice a1 n1 c1,.int .i64 u2],.int .i64 u3]) w1):CallsX P N.f_dyad_Of #[.float .f64 q0] w K:=by
 refine H.dyad_Of q0 w _ ?_
 unfold S_dyad_Of
 unfold T_dyad_Of at h
 try dsimp only
 refine newM_s hS ?_;intro r1 w hS
 obtain ⟨⟨t1,t2,t3,t4⟩,ho1,h⟩:=bnd h
 refine wk_bits_Split H hS (hG.mono tl1) ho1 ?_;clear hS ho1;rintro w hS
 refine ⟨_,_,_,_,rfl,?_⟩
 refine newM_s hS ?_;intro r2 w hS
 refine stc_s hS rfl rfl ?_;intro w hS
 refine stc_s hS rfl rfl ?_;intro w hS
 refine stc_s hS rfl rfl ?_;intro w hS
 refine cond_s h ?_ ?_<;>intro hc h
 ·
  replace hS:=ro1 hS
  refine stc_s hS rfl rfl ?_;intro w hS
  refine stc_s hS rfl rfl ?_;intro w hS
  refine stc_s hS rfl rfl ?_;intro w hS
  refine ⟨_,hS.cel mp0 rfl,_,_,_,hS.cel mp0 rfl,_,hS.cel mp0 rfl,?_⟩
  replace hS:=hS.none (α:=Int) (enc:=(Value.int .u64)) (t:=N.t_uint64)
  cases some_inj h
  exact hK _ _ _ _ (hS.pick (A:=[_,_,_]) [0] rfl)
 refine ⟨_,hS.cel mp0 rfl,?_⟩
 refine cond_s h ?_ ?_<;>intro hc h
 ·
  replace hS:=ro1 hS
  refine stc_s hS rfl rfl ?_;intro w hS
  refine stc_s hS rfl rfl ?_;intro w hS
  refine stc_s hS rfl rfl ?_;intro w hS
  refine ⟨_,hS.cel mp0 rfl,_,_,_,hS.cel mp0 rfl,_,hS.cel mp0 rfl,?_⟩
  replace hS:=hS.none (α:=Int) (enc:=(Value.int .u64)) (t:=N.t_uint64)
  cases some_inj h
  exact hK _ _ _ _ (hS.pick (A:=[_,_,_]) [0] rfl)
 refine ⟨_,hS.cel mp0 rfl,_,hS.cel mp0 rfl,?_⟩
 obtain ⟨t5,ht5,h⟩:=bnd h
 obtain rfl:([t2]:List Int)=t5:=some_inj ht5
 refine lit_s (ks:=[t2]) (enc:=(Value.int .u64)) (m:=1) hS rfl rfl ?_;intro r3 w hS
 refine ⟨_,hS.cel mp1 rfl,?_⟩
 replace hS:=ro2 hS
 refine stc_s hS rfl rfl ?_;intro w hS
 refine stc_s hS rfl rfl ?_;intro w hS
 refine stc_s hS rfl rfl ?_;intro w hS
 refine ⟨_,hS.cel mp0 rfl,_,_,_,hS.cel mp0 rfl,_,hS.cel mp0 rfl,?_⟩
 cases some_inj h
 exact hK _ _ _ _ (hS.pick (A:=[_,_,_]) [1] rfl)
theorem wk_dyad_Right {qa qb qc qd l0_1 qe u0} (hS:Ho w0 w L) (qh:EU L l0_1 qb qc qd) (h:T_dyad_Right qa l0_1 qe=some u0) (hK:∀ w1,Ho w0 w1 L→K (.bool u0) w1):CallsX P N.f_dyad_Right #[.agg #[.bool qa,.slice qb qc qd,.int .i64 qe]] w K:=by
 refine H.dyad_Right qa qb qc qd qe w _ ?_
 unfold S_dyad_Right
 unfold T_dyad_Right at h
 try dsimp only
 refine newM_s hS ?_;intro r1 w hS
 refine ⟨_,_,_,hS.cel mp0 rfl,?_⟩
 obtain ⟨t1,ht1,h⟩:=bnd h
 obtain rfl:=lenE ht1 ((qh.mono tl1).now (fun _ h=>h) hS)
 refine cond_s h ?_ ?_<;>intro hc h
 ·
  refine ⟨_,hS.cel mp0 rfl,?_⟩
  refine cond_s h ?_ ?_<;>intro hc h
  ·
   refine ⟨_,hS.cel mp0 rfl,?_⟩
   cases some_inj h
   exact hK _ (hS.pick (A:=[_]) [] rfl)
  cases some_inj h
  exact hK _ (hS.pick (A:=[_]) [] rfl)
 refine cond_s h ?_ ?_<;>intro hc h
 ·
  refine ⟨_,_,_,hS.cel mp0 rfl,?_⟩
  obtain ⟨t2,ht2,h⟩:=bnd h
  obtain ⟨q2x,vo,q2r⟩:=atE ht2
  refine idx_s ((qh.mono tl1).now (fun _ h=>h) hS) q2x vo q2r ?_;intro b3 hb3
  refine ⟨_,rd_get ((qh.mono tl1).now (fun _ h=>h) hS) hb3 q2x,?_⟩
  refine cond_s h ?_ ?_<;>intro hc h
  ·
   refine ⟨_,_,_,hS.cel mp0 rfl,?_⟩
   obtain ⟨t3,ht3,h⟩:=bnd h
   obtain ⟨q4x,yo,q4r⟩:=atE ht3
   refine idx_s ((qh.mono tl1).now (fun _ h=>h) hS) q4x yo q4r ?_;intro b5 hb5
   refine ⟨_,rd_get ((qh.mono tl1).now (fun _ h=>h) hS) hb5 q4x,?_⟩
   refine cond_s h ?_ ?_<;>intro hc h
   ·
    refine ⟨_,hS.cel mp0 rfl,?_⟩
    refine cond_s h ?_ ?_<;>intro hc h
    ·
     refine ⟨_,hS.cel mp0 rfl,?_⟩
     cases some_inj h
     exact hK _ (hS.pick (A:=[_]) [] rfl)
    cases some_inj h
    exact hK _ (hS.pick (A:=[_]) [] rfl)
   cases some_inj h
   exact hK _ (hS.pick (A:=[_]) [] rfl)
  cases some_inj h
  exact hK _ (hS.pick (A:=[_]) [] rfl)
 cases some_inj h
 exact hK _ (hS.pick (A:=[_]) [] rfl)
theorem wk_dyad_both {qa qb qc qd l0_1 qe qk ql qi qj l1_1 qo u0} (hS:Ho w0 w L) (qh:EU L l0_1 qb qc qd) (qq:EU L l1_1 ql qi qj) (h:T_dyad_both qa l0_1 qe qk l1_1 qo=some u0) (hK:∀ w1,Ho w0 w1 L→K (.bool u0) w1):CallsX P N.f_dyad_both #[.agg #[.bool qa,.slice qb qc qd,.int .i64 qe],.agg #[.bool qk,.slice ql qi qj,.int .i64 qo]] w K:=by
 refine H.dyad_both qa qb qc qd qe qk ql qi qj qo w _ ?_
 unfold S_dyad_both
 unfold T_dyad_both at h
 try dsimp only
 refine newM_s hS ?_;intro r1 w hS
 refine newM_s hS ?_;intro r2 w hS
 refine ⟨_,hS.cel mp1 rfl,_,_,_,hS.cel mp1 rfl,_,hS.cel mp1 rfl,?_⟩
 obtain ⟨t1,ht1,h⟩:=bnd h
 refine wk_dyad_Right H hS (qh.mono tl2) ht1 ?_;rintro w hS
 refine ⟨_,rfl,?_⟩
 refine cond_s h ?_ ?_<;>intro hc h
 ·
  refine ⟨_,hS.cel mp0 rfl,_,_,_,hS.cel mp0 rfl,_,hS.cel mp0 rfl,?_⟩
  obtain ⟨t2,ht2,h⟩:=bnd h
  refine wk_dyad_Right H hS (qq.mono tl2) ht2 ?_;rintro w hS
  refine ⟨_,rfl,?_⟩
  cases some_inj h
  exact hK _ (hS.pick (A:=[_,_]) [] rfl)
 cases some_inj h
 exact hK _ (hS.pick (A:=[_,_]) [] rfl)
theorem wk_dyad_whole {qa qb qc qd l0_1 qe u0} (hS:Ho w0 w L) (qh:EU L l0_1 qb qc qd) (h:T_dyad_whole qa l0_1 qe=some u0) (hK:∀ (r0:Nat) (a0:OA) (n0 c0:Nat) (w1:World),Ho w0 w1 ((bg N.t_bn_Int N.t_uint32 r0 a0 n0 c0 u0)::L)→K (.pointer (some ⟨r0,0,none⟩)) w1):CallsX P N.f_dyad_whole #[.agg #[.bool qa,.slice qb qc qd,.int .i64 qe]] w K:=by
 refine H.dyad_whole qa qb qc qd qe w _ ?_
 unfold S_dyad_whole
 unfold T_dyad_whole at h
 try dsimp only
 refine newM_s hS ?_;intro r1 w hS
 refine newM_s hS ?_;intro r2 w hS;replace hS:=Ho.bgNew (E:=N.t_uint32) hS
 refine ⟨_,_,_,hS.cel mp1 rfl,?_⟩
 obtain ⟨t1,ht1,h⟩:=bnd h
 obtain rfl:=lenE ht1 ((qh.mono tl2).now (fun _ h=>h) hS)
 obtain ⟨o6,h6,c6⟩:=bnd h
 refine cutM_i (fun s w=>∃ (a3:OA) (m4:Nat) (c5:Nat) (t2:Int),t2=o6∧s=(())∧Ho w0 w ((bg N.t_bn_Int N.t_uint32 r2 a3 m4 c5 t2)::(cl r1 [.bool qa,.slice qb qc qd,.int .i64 qe] N.t_Dyad)::L)) (fun J6 hJ6=>?_) ?_
 ·
  have h:=h6
  clear h6
  refine iter_sim (fun s w t=>∃ (t3:Int) (a7:OA) (m8:Nat) (c9:Nat) (t4:Int),(t3,t4)=t∧s=(t3,())∧Ho w0 w ((bg N.t_bn_Int N.t_uint32 r2 a7 m8 c9 t4)::(cl r1 [.bool qa,.slice qb qc qd,.int .i64 qe] N.t_Dyad)::L)) ?_ h ⟨_,_,_,_,_,rfl,rfl,hS⟩
  clear h hS
  rintro s w t X q ⟨t3,a7,m8,c9,t4,rfl,rfl,hS⟩ h hX hO
  unfold T_dyad_whole_b2 at h
  try dsimp only
  refine cond_s h ?_ ?_<;>intro hc h
  ·
   obtain ⟨t5,ht5,h⟩:=bnd h
   refine big_Lsh_zz H hS  ht5 ?_;intro a10 m10 c10 w hS
   refine ⟨_,rfl,?_⟩
   refine newM_s hS ?_;intro r11 w hS;replace hS:=Ho.bgNew (E:=N.t_uint32) hS
   refine ⟨_,_,_,hS.cel mp2 rfl,_,_,_,hS.cel mp2 rfl,?_⟩
   obtain ⟨t6,ht6,h⟩:=bnd h
   obtain rfl:=lenE ht6 ((qh.mono tl3).now (fun _ h=>h) hS)
   obtain ⟨t7,ht7,h⟩:=bnd h
   obtain ⟨q12x,yd,q12r⟩:=atE ht7
   refine idx_s ((qh.mono tl3).now (fun _ h=>h) hS) q12x yd q12r ?_;intro b13 hb13
   refine ⟨_,rd_get ((qh.mono tl3).now (fun _ h=>h) hS) hb13 q12x,?_⟩
   obtain ⟨t8,ht8,h⟩:=bnd h
   refine big_SetUint64_z H hS  ht8 ?_;intro a14 m14 c14 w hS
   refine ⟨_,rfl,?_⟩
   obtain ⟨t9,ht9,h⟩:=bnd h
   replace hS:=ro1 hS
   refine big_Or_zzy H hS (Ent.bg mp0) ht9 ?_;intro a15 m15 c15 w hS
   refine ⟨_,rfl,?_⟩
   obtain rfl:=some_inj h
   exact hX _ rfl _ _ ⟨_,_,_,_,_,rfl,rfl,(hS.pick (A:=[_,_,_]) [0,1] rfl)⟩
  obtain rfl:=some_inj h
  have h:=congrArg some (hO _ rfl)
  exact hJ6 _ _ ⟨_,_,_,_,some_inj h,rfl,hS⟩
 clear h6 hS
 rintro s w ⟨a3,m4,c5,t2,rfl,rfl,hS⟩
 have h:=c6
 clear c6
 try dsimp only
 refine ⟨_,hS.cel mp1 rfl,?_⟩
 obtain ⟨o19,h19,c19⟩:=bnd h
 refine cutM_i (fun s w=>∃ (a16:OA) (m17:Nat) (c18:Nat) (t10:Int),t10=o19∧s=(())∧Ho w0 w ((bg N.t_bn_Int N.t_uint32 r2 a16 m17 c18 t10)::L)) (fun J19 hJ19=>?_) ?_
 ·
  have h:=h19
  clear h19
  refine cond_s h ?_ ?_<;>intro hc h
  ·
   obtain ⟨t11,ht11,h⟩:=bnd h
   refine big_Neg_zz H hS  ht11 ?_;intro a20 m20 c20 w hS
   refine ⟨_,rfl,?_⟩
   obtain rfl:=some_inj h
   exact hJ19 _ _ ⟨_,_,_,_,rfl,rfl,(hS.pick (A:=[_,_]) [0] rfl)⟩
  obtain rfl:=some_inj h
  exact hJ19 _ _ ⟨_,_,_,_,rfl,rfl,(hS.pick (A:=[_,_]) [0] rfl)⟩
 clear h19 hS
 rintro s w ⟨a16,m17,c18,t10,rfl,rfl,hS⟩
 have h:=c19
 clear c19
 try dsimp only
 cases some_inj h
 exact hK _ _ _ _ _ hS
theorem wk_dyad_Mul {qa qb qc qd l0_1 qe qk ql qi qj l1_1 qo u0 u1 u2 u3} (hS:Ho w0 w L) (qh:EU L l0_1 qb qc qd) (qq:EU L l1_1 ql qi qj) (h:T_dyad_Mul qa l0_1 qe qk l1_1 qo=some (u0,u1,u2,u3)) (hK:∀ (a1:OA) (n1 c1:Nat) (w1:World),Ho w0 w1 ((sl a1 n1 c1 (List.map (Value.int .u64) u1) N.t_uint64)::L)→K (.tuple #[.agg #[.bool u0,.slice a1 n1 c1,.int .i64 u2],.int .i64 u3]) w1):CallsX P N.f_dyad_Mul #[.agg #[.bool qa,.slice qb qc qd,.int .i64 qe],.agg #[.bool qk,.slice ql qi qj,.int .i64 qo]] w K:=by
 refine H.dyad_Mul qa qb qc qd qe qk ql qi qj qo w _ ?_
 unfold S_dyad_Mul
 unfold T_dyad_Mul at h
 try dsimp only
 refine newM_s hS ?_;intro r1 w hS
 refine newM_s hS ?_;intro r2 w hS
 refine newM_s hS ?_;intro r3 w hS
 refine ⟨_,hS.cel mp2 rfl,_,_,_,hS.cel mp2 rfl,_,hS.cel mp2 rfl,_,hS.cel mp1 rfl,_,_,_,hS.cel mp1 rfl,_,hS.cel mp1 rfl,?_⟩
 obtain ⟨t1,ht1,h⟩:=bnd h
 refine wk_dyad_both H hS (qh.mono tl3) (qq.mono tl3) ht1 ?_;rintro w hS
 refine ⟨_,rfl,?_⟩
 refine cond_s h ?_ ?_<;>intro hc h
 ·
  refine stc_s hS rfl rfl ?_;intro w hS
  refine stc_s hS rfl rfl ?_;intro w hS
  refine stc_s hS rfl rfl ?_;intro w hS
  refine ⟨_,hS.cel mp0 rfl,_,_,_,hS.cel mp0 rfl,_,hS.cel mp0 rfl,?_⟩
  replace hS:=hS.none (α:=Int) (enc:=(Value.int .u64)) (t:=N.t_uint64)
  cases some_inj h
  exact hK _ _ _ _ (hS.pick (A:=[_,_,_,_]) [0] rfl)
 refine ⟨_,hS.cel mp2 rfl,_,_,_,hS.cel mp2 rfl,_,hS.cel mp2 rfl,?_⟩
 obtain ⟨t2,ht2,h⟩:=bnd h
 refine wk_dyad_whole H hS (qh.mono tl3) ht2 ?_;rintro r4 a4 m4 c4 w hS
 refine ⟨_,rfl,?_⟩
 refine ⟨_,hS.cel mp2 rfl,_,_,_,hS.cel mp2 rfl,_,hS.cel mp2 rfl,_,hS.cel mp3 rfl,_,hS.cel mp2 rfl,?_⟩
 refine drM_s hS ?_;intro w hS
 obtain ⟨t3,ht3,h⟩:=bnd h
 refine wk_dyad_whole H hS (qq.mono tl4) ht3 ?_;rintro r5 a5 m5 c5 w hS
 refine ⟨_,rfl,?_⟩
 refine ⟨(hS.cel mp3 rfl),?_⟩
 refine ⟨(hS.cel mp4 rfl),?_⟩
 refine drM_s hS ?_;intro w hS
 obtain ⟨t4,ht4,h⟩:=bnd h
 replace hS:=ro1 hS
 refine big_Mul_zzy H hS (Ent.bg mp0) ht4 ?_;intro a6 m6 c6 w hS
 refine ⟨_,rfl,?_⟩
 refine ⟨(hS.cel mp3 rfl),?_⟩
 refine ⟨(hS.cel mp4 rfl),?_⟩
 refine drM_s hS ?_;intro w hS
 obtain ⟨⟨t5,t6,t7,t8⟩,ho5,h⟩:=bnd h
 refine wk_dyad_made H hS (Ent.bg mp0) ho5 ?_;clear hS ho5;rintro a7 m7 c7 w hS
 refine ⟨_,_,_,_,_,_,rfl,?_⟩
 refine drM_s hS ?_;intro w hS
 replace hS:=ro3 hS
 refine stc_s hS rfl rfl ?_;intro w hS
 refine stc_s hS rfl rfl ?_;intro w hS
 refine stc_s hS rfl rfl ?_;intro w hS
 refine drM_s hS ?_;intro w hS
 refine ⟨_,hS.cel mp0 rfl,_,_,_,hS.cel mp0 rfl,_,hS.cel mp0 rfl,?_⟩
 cases some_inj h
 exact hK _ _ _ _ (hS.pick (A:=[_,_,_,_,_,_]) [1] rfl)
theorem wk_w12_product {q0 q1 q2 u0 u1 u2 u3} (hS:Ho w0 w L) (hG:Ent L (tab64 N.g_1)) (h:T_w12_product (nf q0) (nf q1) (nf q2)=some (u0,u1,u2,u3)) (hK:∀ (a1:OA) (n1 c1:Nat) (w1:World),Ho w0 w1 ((sl a1 n1 c1 (List.map (Value.int .u64) u1) N.t_uint64)::L)→K (.tuple #[.agg #[.bool u0,.slice a1 n1 c1,.int .i64 u2],.int .i64 u3]) w1):CallsX P N.f_w12_product #[.float .f64 q0,.float .f64 q1,.float .f64 q2] w K:=by
 refine H.w12_product q0 q1 q2 w _ ?_
 unfold S_w12_product
 unfold T_w12_product at h
 try dsimp only
 refine newM_s hS ?_;intro r1 w hS
 obtain ⟨⟨t1,t2,t3,t4⟩,ho1,h⟩:=bnd h
 refine wk_dyad_Of H hS (hG.mono tl1) ho1 ?_;clear hS ho1;rintro a2 m2 c2 w hS
 refine ⟨_,_,_,_,_,_,rfl,?_⟩
 refine newM_s hS ?_;intro r3 w hS
 refine stc_s hS rfl rfl ?_;intro w hS
 refine stc_s hS rfl rfl ?_;intro w hS
 refine stc_s hS rfl rfl ?_;intro w hS
 obtain ⟨⟨t5,t6,t7,t8⟩,ho5,h⟩:=bnd h
 refine wk_dyad_Of H hS (hG.mono tl3) ho5 ?_;clear hS ho5;rintro a4 m4 c4 w hS
 refine ⟨_,_,_,_,_,_,rfl,?_⟩
 refine newM_s hS ?_;intro r5 w hS
 refine stc_s hS rfl rfl ?_;intro w hS
 refine stc_s hS rfl rfl ?_;intro w hS
 refine stc_s hS rfl rfl ?_;intro w hS
 obtain ⟨⟨t9,t10,t11,t12⟩,ho9,h⟩:=bnd h
 refine wk_dyad_Of H hS (hG.mono tl5) ho9 ?_;clear hS ho9;rintro a6 m6 c6 w hS
 refine ⟨_,_,_,_,_,_,rfl,?_⟩
 refine newM_s hS ?_;intro r7 w hS
 refine stc_s hS rfl rfl ?_;intro w hS
 refine stc_s hS rfl rfl ?_;intro w hS
 refine stc_s hS rfl rfl ?_;intro w hS
 obtain ⟨o8,h8,c8⟩:=bnd h
 refine cutM_i (fun s w=>∃ (t13:Bool),t13=o8∧s=(t13,())∧Ho w0 w ((cl r7 [.bool t9,.slice a6 m6 c6,.int .i64 t11] N.t_Dyad)::(sl a6 m6 c6 (List.map (Value.int .u64) t10) N.t_uint64)::(cl r5 [.bool t5,.slice a4 m4 c4,.int .i64 t7] N.t_Dyad)::(sl a4 m4 c4 (List.map (Value.int .u64) t6) N.t_uint64)::(cl r3 [.bool t1,.slice a2 m2 c2,.int .i64 t3] N.t_Dyad)::(sl a2 m2 c2 (List.map (Value.int .u64) t2) N.t_uint64)::(cl r1 [.bool false,.slice none 0 0,.int .i64 0] N.t_Dyad)::L)) (fun J8 hJ8=>?_) ?_
 ·
  have h:=h8
  clear h8
  refine cond_s h ?_ ?_<;>intro hc h
  ·
   refine cond_s h ?_ ?_<;>intro hc h
   ·
    exact hJ8 _ _ ⟨_,some_inj h,rfl,hS⟩
   exact hJ8 _ _ ⟨_,some_inj h,rfl,hS⟩
  exact hJ8 _ _ ⟨_,some_inj h,rfl,hS⟩
 clear h8 hS
 rintro s w ⟨t13,rfl,rfl,hS⟩
 have h:=c8
 clear c8
 try dsimp only
 refine cond_s h ?_ ?_<;>intro hc h
 ·
  refine ⟨_,hS.cel mp4 rfl,_,_,_,hS.cel mp4 rfl,_,hS.cel mp4 rfl,?_⟩
  replace hS:=ro6 hS
  refine stc_s hS rfl rfl ?_;intro w hS
  refine stc_s hS rfl rfl ?_;intro w hS
  refine stc_s hS rfl rfl ?_;intro w hS
  refine ⟨_,hS.cel mp0 rfl,_,_,_,hS.cel mp0 rfl,_,hS.cel mp0 rfl,?_⟩
  cases some_inj h
  exact hK _ _ _ _ (hS.pick (A:=[_,_,_,_,_,_,_]) [6] rfl)
 refine ⟨_,hS.cel mp4 rfl,_,_,_,hS.cel mp4 rfl,_,hS.cel mp4 rfl,_,hS.cel mp2 rfl,_,_,_,hS.cel mp2 rfl,_,hS.cel mp2 rfl,?_⟩
 obtain ⟨⟨t14,t15,t16,t17⟩,ho14,h⟩:=bnd h
 refine wk_dyad_Mul H hS (Ent.sl mp5) (Ent.sl mp3) ho14 ?_;clear hS ho14;rintro a9 m9 c9 w hS
 refine ⟨_,_,_,_,_,_,rfl,?_⟩
 replace hS:=ro5 hS
 refine stc_s hS rfl rfl ?_;intro w hS
 refine stc_s hS rfl rfl ?_;intro w hS
 refine stc_s hS rfl rfl ?_;intro w hS
 refine cond_s h ?_ ?_<;>intro hc h
 ·
  refine ⟨_,hS.cel mp0 rfl,_,_,_,hS.cel mp0 rfl,_,hS.cel mp0 rfl,?_⟩
  replace hS:=ro7 hS
  refine stc_s hS rfl rfl ?_;intro w hS
  refine stc_s hS rfl rfl ?_;intro w hS
  refine stc_s hS rfl rfl ?_;intro w hS
  refine ⟨_,hS.cel mp0 rfl,_,_,_,hS.cel mp0 rfl,_,hS.cel mp0 rfl,?_⟩
  cases some_inj h
  exact hK _ _ _ _ (hS.pick (A:=[_,_,_,_,_,_,_,_]) [2] rfl)
 refine ⟨_,hS.cel mp0 rfl,_,_,_,hS.cel mp0 rfl,_,hS.cel mp0 rfl,_,hS.cel mp2 rfl,_,_,_,hS.cel mp2 rfl,_,hS.cel mp2 rfl,?_⟩
 obtain ⟨⟨t18,t19,t20,t21⟩,ho18,h⟩:=bnd h
 refine wk_dyad_Mul H hS (Ent.sl mp1) (Ent.sl mp3) ho18 ?_;clear hS ho18;rintro a10 m10 c10 w hS
 refine ⟨_,_,_,_,_,_,rfl,?_⟩
 replace hS:=ro8 hS
 refine stc_s hS rfl rfl ?_;intro w hS
 refine stc_s hS rfl rfl ?_;intro w hS
 refine stc_s hS rfl rfl ?_;intro w hS
 refine ⟨_,hS.cel mp0 rfl,_,_,_,hS.cel mp0 rfl,_,hS.cel mp0 rfl,?_⟩
 cases some_inj h
 exact hK _ _ _ _ (hS.pick (A:=[_,_,_,_,_,_,_,_,_]) [1] rfl)
theorem wk_dyad_Sign {qa qb qc qd l0_1 qe u0 u1} (hS:Ho w0 w L) (qh:EU L l0_1 qb qc qd) (h:T_dyad_Sign qa l0_1 qe=some (u0,u1)) (hK:∀ w1,Ho w0 w1 L→K (.tuple #[.int .i64 u0,.int .i64 u1]) w1):CallsX P N.f_dyad_Sign #[.agg #[.bool qa,.slice qb qc qd,.int .i64 qe]] w K:=by
 refine H.dyad_Sign qa qb qc qd qe w _ ?_
 unfold S_dyad_Sign
 unfold T_dyad_Sign at h
 try dsimp only
 refine newM_s hS ?_;intro r1 w hS
 refine ⟨_,hS.cel mp0 rfl,_,_,_,hS.cel mp0 rfl,_,hS.cel mp0 rfl,?_⟩
 obtain ⟨t1,ht1,h⟩:=bnd h
 refine wk_dyad_Right H hS (qh.mono tl1) ht1 ?_;rintro w hS
 refine ⟨_,rfl,?_⟩
 refine cond_s h ?_ ?_<;>intro hc h
 ·
  cases some_inj h
  exact hK _ (hS.pick (A:=[_]) [] rfl)
 refine ⟨_,_,_,hS.cel mp0 rfl,?_⟩
 obtain ⟨t2,ht2,h⟩:=bnd h
 obtain rfl:=lenE ht2 ((qh.mono tl1).now (fun _ h=>h) hS)
 refine cond_s h ?_ ?_<;>intro hc h
 ·
  cases some_inj h
  exact hK _ (hS.pick (A:=[_]) [] rfl)
 refine ⟨_,hS.cel mp0 rfl,?_⟩
 refine cond_s h ?_ ?_<;>intro hc h
 ·
  cases some_inj h
  exact hK _ (hS.pick (A:=[_]) [] rfl)
 cases some_inj h
 exact hK _ (hS.pick (A:=[_]) [] rfl)
theorem wk_dyad_Neg {qa qb qc qd l0_1 qe u0 u1 u2 u3} (hS:Ho w0 w L) (qh:EU L l0_1 qb qc qd) (h:T_dyad_Neg qa l0_1 qe=some (u0,u1,u2,u3)) (hK:∀ (a1:OA) (n1 c1:Nat) (w1:World),Ho w0 w1 ((sl a1 n1 c1 (List.map (Value.int .u64) u1) N.t_uint64)::L)→K (.tuple #[.agg #[.bool u0,.slice a1 n1 c1,.int .i64 u2],.int .i64 u3]) w1):CallsX P N.f_dyad_Neg #[.agg #[.bool qa,.slice qb qc qd,.int .i64 qe]] w K:=by
 refine H.dyad_Neg qa qb qc qd qe w _ ?_
 unfold S_dyad_Neg
 unfold T_dyad_Neg at h
 try dsimp only
 refine newM_s hS ?_;intro r1 w hS
 refine newM_s hS ?_;intro r2 w hS
 refine ⟨_,hS.cel mp1 rfl,_,_,_,hS.cel mp1 rfl,_,hS.cel mp1 rfl,?_⟩
 obtain ⟨t1,ht1,h⟩:=bnd h
 refine wk_dyad_Right H hS (qh.mono tl2) ht1 ?_;rintro w hS
 refine ⟨_,rfl,?_⟩
 refine cond_s h ?_ ?_<;>intro hc h
 ·
  refine stc_s hS rfl rfl ?_;intro w hS
  refine stc_s hS rfl rfl ?_;intro w hS
  refine stc_s hS rfl rfl ?_;intro w hS
  refine ⟨_,hS.cel mp0 rfl,_,_,_,hS.cel mp0 rfl,_,hS.cel mp0 rfl,?_⟩
  replace hS:=hS.none (α:=Int) (enc:=(Value.int .u64)) (t:=N.t_uint64)
  cases some_inj h
  exact hK _ _ _ _ (hS.pick (A:=[_,_,_]) [0] rfl)
 refine ⟨_,hS.cel mp1 rfl,?_⟩
 refine cond_s h ?_ ?_<;>intro hc h
 ·
  refine ⟨_,_,_,hS.cel mp1 rfl,?_⟩
  obtain ⟨t2,ht2,h⟩:=bnd h
  obtain rfl:=lenE ht2 ((qh.mono tl2).now (fun _ h=>h) hS)
  refine ⟨_,hS.cel mp1 rfl,?_⟩
  refine newM_s hS ?_;intro r3 w hS
  refine stc_s hS rfl rfl ?_;intro w hS
  refine stc_s hS rfl rfl ?_;intro w hS
  refine stc_s hS rfl rfl ?_;intro w hS
  refine ⟨_,_,_,hS.cel mp0 rfl,_,_,_,hS.cel mp2 rfl,?_⟩
  obtain ⟨t3,ht3,h⟩:=bnd h
  obtain ⟨rfl,kt3⟩:=appE ht3
  replace hS:=hS.none (α:=Int) (enc:=(Value.int .u64)) (t:=N.t_uint64)
  refine app_s hS kt3 ((qh.mono tl4).now (fun _ h=>h) hS) (fun _=>rfl) rfl ?_;clear hS kt3;intro a4 c4 w hS
  replace hS:=ro1 hS
  refine stc_s hS rfl rfl ?_;intro w hS
  refine ⟨_,hS.cel mp0 rfl,_,_,_,hS.cel mp0 rfl,_,hS.cel mp0 rfl,?_⟩
  replace hS:=ro2 hS
  refine stc_s hS rfl rfl ?_;intro w hS
  refine stc_s hS rfl rfl ?_;intro w hS
  refine stc_s hS rfl rfl ?_;intro w hS
  refine ⟨_,hS.cel mp0 rfl,_,_,_,hS.cel mp0 rfl,_,hS.cel mp0 rfl,?_⟩
  cases some_inj h
  exact hK _ _ _ _ (hS.pick (A:=[_,_,_,_]) [2] rfl)
 refine ⟨_,hS.cel mp1 rfl,?_⟩
 refine newM_s hS ?_;intro r5 w hS
 refine stc_s hS rfl rfl ?_;intro w hS
 refine stc_s hS rfl rfl ?_;intro w hS
 refine stc_s hS rfl rfl ?_;intro w hS
 refine ⟨_,_,_,hS.cel mp0 rfl,_,_,_,hS.cel mp2 rfl,?_⟩
 obtain ⟨t4,ht4,h⟩:=bnd h
 obtain ⟨rfl,kt4⟩:=appE ht4
 replace hS:=hS.none (α:=Int) (enc:=(Value.int .u64)) (t:=N.t_uint64)
 refine app_s hS kt4 ((qh.mono tl4).now (fun _ h=>h) hS) (fun _=>rfl) rfl ?_;clear hS kt4;intro a6 c6 w hS
 replace hS:=ro1 hS
 refine stc_s hS rfl rfl ?_;intro w hS
 refine ⟨_,hS.cel mp0 rfl,_,_,_,hS.cel mp0 rfl,_,hS.cel mp0 rfl,?_⟩
 replace hS:=ro2 hS
 refine stc_s hS rfl rfl ?_;intro w hS
 refine stc_s hS rfl rfl ?_;intro w hS
 refine stc_s hS rfl rfl ?_;intro w hS
 refine ⟨_,hS.cel mp0 rfl,_,_,_,hS.cel mp0 rfl,_,hS.cel mp0 rfl,?_⟩
 cases some_inj h
 exact hK _ _ _ _ (hS.pick (A:=[_,_,_,_]) [2] rfl)
theorem wk_dyad_Add {qa qb qc qd l0_1 qe qk ql qi qj l1_1 qo u0 u1 u2 u3} (hS:Ho w0 w L) (qh:EU L l0_1 qb qc qd) (qq:EU L l1_1 ql qi qj) (h:T_dyad_Add qa l0_1 qe qk l1_1 qo=some (u0,u1,u2,u3)) (hK:∀ (a1:OA) (n1 c1:Nat) (w1:World),Ho w0 w1 ((sl a1 n1 c1 (List.map (Value.int .u64) u1) N.t_uint64)::L)→K (.tuple #[.agg #[.bool u0,.slice a1 n1 c1,.int .i64 u2],.int .i64 u3]) w1):CallsX P N.f_dyad_Add #[.agg #[.bool qa,.slice qb qc qd,.int .i64 qe],.agg #[.bool qk,.slice ql qi qj,.int .i64 qo]] w K:=by
 refine H.dyad_Add qa qb qc qd qe qk ql qi qj qo w _ ?_
 unfold S_dyad_Add
 unfold T_dyad_Add at h
 try dsimp only
 refine newM_s hS ?_;intro r1 w hS
 refine newM_s hS ?_;intro r2 w hS
 refine newM_s hS ?_;intro r3 w hS
 refine ⟨_,hS.cel mp2 rfl,_,_,_,hS.cel mp2 rfl,_,hS.cel mp2 rfl,_,hS.cel mp1 rfl,_,_,_,hS.cel mp1 rfl,_,hS.cel mp1 rfl,?_⟩
 obtain ⟨t1,ht1,h⟩:=bnd h
 refine wk_dyad_both H hS (qh.mono tl3) (qq.mono tl3) ht1 ?_;rintro w hS
 refine ⟨_,rfl,?_⟩
 refine cond_s h ?_ ?_<;>intro hc h
 ·
  refine stc_s hS rfl rfl ?_;intro w hS
  refine stc_s hS rfl rfl ?_;intro w hS
  refine stc_s hS rfl rfl ?_;intro w hS
  refine ⟨_,hS.cel mp0 rfl,_,_,_,hS.cel mp0 rfl,_,hS.cel mp0 rfl,?_⟩
  replace hS:=hS.none (α:=Int) (enc:=(Value.int .u64)) (t:=N.t_uint64)
  cases some_inj h
  exact hK _ _ _ _ (hS.pick (A:=[_,_,_,_]) [0] rfl)
 refine ⟨_,hS.cel mp2 rfl,_,_,_,hS.cel mp2 rfl,_,hS.cel mp2 rfl,_,hS.cel mp1 rfl,_,_,_,hS.cel mp1 rfl,_,hS.cel mp1 rfl,?_⟩
 refine drM_s hS ?_;intro w hS
 obtain ⟨t2,ht2,h⟩:=bnd h
 refine wk_dyad_whole H hS (qh.mono tl3) ht2 ?_;rintro r4 a4 m4 c4 w hS
 refine ⟨_,rfl,?_⟩
 refine ⟨(hS.cel mp2 rfl),?_⟩
 refine ⟨(hS.cel mp2 rfl),?_⟩
 refine ⟨(hS.cel mp2 rfl),?_⟩
 refine drM_s hS ?_;intro w hS
 obtain ⟨t3,ht3,h⟩:=bnd h
 refine wk_dyad_whole H hS (qq.mono tl4) ht3 ?_;rintro r5 a5 m5 c5 w hS
 refine ⟨_,rfl,?_⟩
 refine drM_s hS ?_;intro w hS
 obtain ⟨o6,h6,c6⟩:=bnd h
 refine cutM_i (fun s w=>∃ (t4:Bool),t4=o6∧s=(t4,())∧Ho w0 w ((bg N.t_bn_Int N.t_uint32 r5 a5 m5 c5 t3)::(bg N.t_bn_Int N.t_uint32 r4 a4 m4 c4 t2)::(cl r3 [.bool false,.slice none 0 0,.int .i64 0] N.t_Dyad)::(cl r2 [.bool qk,.slice ql qi qj,.int .i64 qo] N.t_Dyad)::(cl r1 [.bool qa,.slice qb qc qd,.int .i64 qe] N.t_Dyad)::L)) (fun J6 hJ6=>?_) ?_
 ·
  have h:=h6
  clear h6
  obtain ⟨t5,ht5,h⟩:=bnd h
  refine big_Sign_x H hS (Ent.bg mp1) ht5 ?_;intro w hS
  refine ⟨_,rfl,?_⟩
  refine cond_s h ?_ ?_<;>intro hc h
  ·
   obtain ⟨t6,ht6,h⟩:=bnd h
   refine big_Sign_x H hS (Ent.bg mp0) ht6 ?_;intro w hS
   refine ⟨_,rfl,?_⟩
   exact hJ6 _ _ ⟨_,some_inj h,rfl,hS⟩
  exact hJ6 _ _ ⟨_,some_inj h,rfl,hS⟩
 clear h6 hS
 rintro s w ⟨t4,rfl,rfl,hS⟩
 have h:=c6
 clear c6
 try dsimp only
 refine cond_s h ?_ ?_<;>intro hc h
 ·
  refine ⟨_,hS.cel mp4 rfl,_,hS.cel mp3 rfl,?_⟩
  refine drM_s hS ?_;intro w hS
  obtain ⟨t7,ht7,h⟩:=bnd h
  replace hS:=ro1 hS
  refine big_Add_zzy H hS (Ent.bg mp0) ht7 ?_;intro a7 m7 c7 w hS
  refine ⟨_,rfl,?_⟩
  refine ⟨(hS.cel mp3 rfl),?_⟩
  refine ⟨(hS.cel mp4 rfl),?_⟩
  refine drM_s hS ?_;intro w hS
  obtain ⟨⟨t8,t9,t10,t11⟩,ho8,h⟩:=bnd h
  refine wk_dyad_made H hS (Ent.bg mp0) ho8 ?_;clear hS ho8;rintro a8 m8 c8 w hS
  refine ⟨_,_,_,_,_,_,rfl,?_⟩
  refine drM_s hS ?_;intro w hS
  replace hS:=ro3 hS
  refine stc_s hS rfl rfl ?_;intro w hS
  refine stc_s hS rfl rfl ?_;intro w hS
  refine stc_s hS rfl rfl ?_;intro w hS
  refine drM_s hS ?_;intro w hS
  refine ⟨_,hS.cel mp0 rfl,_,_,_,hS.cel mp0 rfl,_,hS.cel mp0 rfl,?_⟩
  cases some_inj h
  exact hK _ _ _ _ (hS.pick (A:=[_,_,_,_,_,_]) [1] rfl)
 refine ⟨_,hS.cel mp4 rfl,_,hS.cel mp3 rfl,?_⟩
 obtain ⟨o27,h27,c27⟩:=bnd h
 refine cutM_i (fun s w=>∃ (t12:Bool) (t13:Int) (t14:Bool) (t15:Int) (r9:Nat) (a10:OA) (m11:Nat) (c12:Nat) (t16:Int) (r13:Nat) (a14:OA) (m15:Nat) (c16:Nat) (t17:Int) (a17:OA) (m18:Nat) (c19:Nat) (t18:List Int) (it20:It) (a22:OA) (m23:Nat) (c24:Nat) (t19:List Int) (it25:It),(t12,t13,t14,t15,t16,t17,t18,t19)=o27∧s=((some ⟨r9,0,none⟩),(some ⟨r13,0,none⟩),())∧Ent (it20::L) (rdA (List.map (Value.int .u64) t18) a17 m18 c19)∧Ent (it25::L) (rdA (List.map (Value.int .u64) t19) a22 m23 c24)∧Ho w0 w ((cl r2 [.bool t12,.slice a17 m18 c19,.int .i64 t13] N.t_Dyad)::(cl r1 [.bool t14,.slice a22 m23 c24,.int .i64 t15] N.t_Dyad)::(cl r3 [.bool false,.slice none 0 0,.int .i64 0] N.t_Dyad)::(bg N.t_bn_Int N.t_uint32 r9 a10 m11 c12 t16)::(bg N.t_bn_Int N.t_uint32 r13 a14 m15 c16 t17)::it20::it25::L)) (fun J27 hJ27=>?_) ?_
 ·
  have h:=h27
  clear h27
  refine cond_s h ?_ ?_<;>intro hc h
  ·
   refine ⟨_,hS.cel mp3 rfl,_,_,_,hS.cel mp3 rfl,_,hS.cel mp3 rfl,_,hS.cel mp4 rfl,_,_,_,hS.cel mp4 rfl,_,hS.cel mp4 rfl,?_⟩
   replace hS:=ro4 hS
   refine stc_s hS rfl rfl ?_;intro w hS
   refine stc_s hS rfl rfl ?_;intro w hS
   refine stc_s hS rfl rfl ?_;intro w hS
   replace hS:=ro4 hS
   refine stc_s hS rfl rfl ?_;intro w hS
   refine stc_s hS rfl rfl ?_;intro w hS
   refine stc_s hS rfl rfl ?_;intro w hS
   replace hS:=hS.voidItem
   replace hS:=hS.voidItem
   obtain rfl:=some_inj h
   exact hJ27 _ _ ⟨_,_,_,_,_,_,_,_,_,_,_,_,_,_,_,_,_,_,_,_,_,_,_,_,rfl,rfl,(qh.mono tl1),(qq.mono tl1),(hS.pick (A:=[_,_,_,_,_,_,_]) [2,2,4,2,2,1,0] rfl)⟩
  replace hS:=hS.voidItem
  replace hS:=hS.voidItem
  obtain rfl:=some_inj h
  exact hJ27 _ _ ⟨_,_,_,_,_,_,_,_,_,_,_,_,_,_,_,_,_,_,_,_,_,_,_,_,rfl,rfl,(qq.mono tl1),(qh.mono tl1),(hS.pick (A:=[_,_,_,_,_,_,_]) [5,5,4,3,2,1,0] rfl)⟩
 clear h27 hS
 rintro s w ⟨t12,t13,t14,t15,r9,a10,m11,c12,t16,r13,a14,m15,c16,t17,a17,m18,c19,t18,it20,a22,m23,c24,t19,it25,rfl,rfl,e21,e26,hS⟩
 have h:=c27
 clear c27
 try dsimp only
 refine ⟨_,hS.cel mp1 rfl,_,hS.cel mp0 rfl,?_⟩
 refine cond_s h ?_ ?_<;>intro hc h
 ·
  replace hS:=ro2 hS
  refine stc_s hS rfl rfl ?_;intro w hS
  refine stc_s hS rfl rfl ?_;intro w hS
  refine stc_s hS rfl rfl ?_;intro w hS
  refine ⟨_,hS.cel mp0 rfl,_,_,_,hS.cel mp0 rfl,_,hS.cel mp0 rfl,?_⟩
  replace hS:=hS.none (α:=Int) (enc:=(Value.int .u64)) (t:=N.t_uint64)
  cases some_inj h
  exact hK _ _ _ _ (hS.pick (A:=[_,_,_,_,_,_,_,_]) [0] rfl)
 refine ⟨_,hS.cel mp0 rfl,?_⟩
 refine drM_s hS ?_;intro w hS
 obtain ⟨t20,ht20,h⟩:=bnd h
 replace hS:=ro3 hS
 refine big_Lsh_zz H hS  ht20 ?_;intro a28 m28 c28 w hS
 refine ⟨_,rfl,?_⟩
 refine ⟨(hS.cel mp1 rfl),?_⟩
 refine drM_s hS ?_;intro w hS
 obtain ⟨t21,ht21,h⟩:=bnd h
 refine big_Add_zzy H hS (Ent.bg mp3) ht21 ?_;intro a29 m29 c29 w hS
 refine ⟨_,rfl,?_⟩
 refine ⟨(hS.cel mp1 rfl),?_⟩
 refine drM_s hS ?_;intro w hS
 obtain ⟨⟨t22,t23,t24,t25⟩,ho22,h⟩:=bnd h
 refine wk_dyad_made H hS (Ent.bg mp0) ho22 ?_;clear hS ho22;rintro a30 m30 c30 w hS
 refine ⟨_,_,_,_,_,_,rfl,?_⟩
 refine drM_s hS ?_;intro w hS
 replace hS:=ro4 hS
 refine stc_s hS rfl rfl ?_;intro w hS
 refine stc_s hS rfl rfl ?_;intro w hS
 refine stc_s hS rfl rfl ?_;intro w hS
 refine drM_s hS ?_;intro w hS
 refine ⟨_,hS.cel mp0 rfl,_,_,_,hS.cel mp0 rfl,_,hS.cel mp0 rfl,?_⟩
 cases some_inj h
 exact hK _ _ _ _ (hS.pick (A:=[_,_,_,_,_,_,_,_]) [1] rfl)
end Go.Eng
