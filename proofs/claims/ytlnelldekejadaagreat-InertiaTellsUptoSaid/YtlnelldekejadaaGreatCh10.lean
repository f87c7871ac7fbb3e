/-
  Sequences of rationals as power series: products, the derivation k c(k), Newton's rule. No condition.
-/
import Derived.Test.YtlnelldekejadaaGreatIne5
set_option linter.all false
open Rat renaming mul_le_mul_of_nonneg_left→AA,mul_nonneg→AB,mul_pos→AC,le_of_lt→AE,mul_inv_cancel→AF,zero_mul→AG,natCast_add→AH,mul_zero→AL,mul_one→AM,le_trans→AN,mul_assoc→AP,le_total→AR,natCast_le_natCast→AS,le_refl→AT,intCast_mul→AV,inv_mul_cancel→AX,one_mul→AZ,mul_comm→BB,add_zero→BC,intCast_neg→BE,zero_add→BG,mul_add→BI
open Nat renaming le_refl→AD,zero_le→AU,le_trans→AW,add_sub_cancel→BF,sub_self→BH
open List renaming filter_cons→AI,mem_cons_self→AJ,getD_eq_getElem?_getD→AK,mem_cons_of_mem→AO,getElem?_eq_getElem→AQ,length_append→AY,filter_append_perm→BA
open Int renaming pow_succ→BD,one_mul→BJ
namespace Go.Ine
def cv (f g:Nat→Rat) (k:Nat):Rat:=sm (k+1) fun i=>f i*g (k-i)
theorem El2 (f:Nat→Rat):∀ n,sm (n+1) f=sm (n+1) fun i=>f (n-i)
 | 0=>rfl
 | n+1=>by
   rw [Al6 (fun i=>f (n+1-i)) (n+1)]
   show sm (n+1) f+f (n+1)=f (n+1-0)+sm (n+1) fun k=>f (n+1-(k+1))
   rw [El2 f n,Aa2 (g:=fun k=>f (n+1-(k+1))) fun k hk=>by rw [show n+1-(k+1)=n-k by omega]]
   rw [Rat.add_comm];rfl
theorem Ga1:∀ (k:Nat) (F:Nat→Nat→Nat→Rat),sm (k+1) (fun i=>sm (i+1) fun j=>F j (i-j) (k-i))=sm (k+1) fun j=>sm (k-j+1) fun l=>F j l (k-j-l)
 | 0,F=>rfl
 | k+1,F=>by
   have d:sm (k+2) (fun i=>sm (i+1) fun j=>F j (i-j) (k+1-i))=sm (k+2) (fun i=>F 0 i (k+1-i))+sm (k+2) (fun i=>sm i fun j=>F (j+1) (i-(j+1)) (k+1-i)):=by
    rw [← Ai2]
    refine Aa2 fun i _=>?_
    rw [Al6];rfl
   have f:sm (k+2) (fun i=>sm i fun j=>F (j+1) (i-(j+1)) (k+1-i))=sm (k+1) (fun i=>sm (i+1) fun j=>F (j+1) (i-j) (k-i)):=by
    rw [Al6]
    have z:(sm 0 fun j=>F (j+1) (0-(j+1)) (k+1-0))=0:=rfl
    rw [z,BG]
    refine Aa2 fun i _=>Aa2 fun j _=>?_
    rw [show i+1-(j+1)=i-j by omega,show k+1-(i+1)=k-i by omega]
   rw [d,f,Ga1 k fun j l r=>F (j+1) l r,Al6 (fun j=>sm (k+1-j+1) fun l=>F j l (k+1-j-l))]
   congr 1
   refine Aa2 fun j _=>?_
   rw [show k+1-(j+1)=k-j by omega]
theorem Cx9 (f g:Nat→Rat):cv f g=cv g f:=by
 funext k
 unfold cv
 rw [El2]
 refine Aa2 fun i hi=>?_
 rw [show k-(k-i)=i by omega,BB]
theorem Dl2 (f g h:Nat→Rat):cv (cv f g) h=cv f (cv g h):=by
 funext k
 have:=Ga1 k fun j l r=>f j*g l*h r
 unfold cv
 have d:(sm (k+1) fun i=>(sm (i+1) fun j=>f j*g (i-j))*h (k-i))=sm (k+1) fun i=>sm (i+1) fun j=>f j*g (i-j)*h (k-i):=Aa2 fun i _=>(An0 _ _ _).symm
 rw [d,this]
 refine Aa2 fun i _=>?_
 rw [← Ab9]
 exact Aa2 fun l _=>AP ..
theorem Gl0 (f g h:Nat→Rat):cv f (fun k=>g k+h k)=fun k=>cv f g k+cv f h k:=by
 funext k
 unfold cv
 rw [← Ai2]
 exact Aa2 fun i _=>BI ..
theorem Ei1 (f g:Nat→Rat):cv f (fun k => - g k)=fun k => - cv f g k:=by
 funext k
 unfold cv
 have e:(sm (k+1) fun i=>f i * - g (k-i))=sm (k+1) fun i => -1*(f i*g (k-i)):=Aa2 fun i _=>by grind
 rw [e,Ab9];grind
def un (k:Nat):Rat:=if k=0 then 1 else 0
theorem Gy7 (f:Nat→Rat):cv f un=f:=by
 funext k
 unfold cv
 rw [Am0 (i:=k) (by omega) fun i hi hne=>by unfold un;rw [if_neg (by omega),AL]]
 unfold un
 rw [BH,if_pos rfl,AM]
theorem Gn2 (f:Nat→Rat):cv un f=f:=by rw [Cx9,Gy7]
def dv (f:Nat→Rat) (k:Nat):Rat:=(k:Rat)*f k
theorem cast_sub' {i k:Nat} (h:i≤k):((k:Nat):Rat)=(i:Rat)+((k-i:Nat):Rat):=by
 rw [← AH];congr 1;omega
theorem Gd4 (a b x y:Rat):(a+b)*(x*y)=a*x*y+x*(b*y):=by grind
theorem Gy5 (f g:Nat→Rat):dv (cv f g)=fun k=>cv (dv f) g k+cv f (dv g) k:=by
 funext k
 unfold dv cv
 rw [← Ab9,← Ai2]
 refine Aa2 fun i hi=>?_
 rw [cast_sub' (show i≤k by omega)]
 exact Gd4 _ _ _ _
def IsN (p c:Nat→Rat):Prop:=c 0=1∧dv c=fun k => - cv c p k
theorem IsN.step {p c:Nat→Rat} (h:IsN p c) (d:p 0=0) (k:Nat):((k+1:Nat):Rat)*c (k+1) = - sm (k+1) fun i=>c i*p (k+1-i):=by
 have:=congrFun h.2 (k+1)
 unfold dv cv at this
 rw [this]
 show -(sm (k+1) (fun i=>c i*p (k+1-i))+c (k+1)*p (k+1-(k+1)))=_
 rw [BH,d,AL,BC]
theorem Cn3 (k:Nat):(0:Rat)<((k+1:Nat):Rat):=by
 have:=Rat.intCast_pos.2 (show (0:Int)<((k+1:Nat):Int) by omega)
 exact this
theorem Fu2 {a x y:Rat} (ha:0<a) (h:a*x=a*y):x=y:=by
 have d:a*(x-y)=0:=by grind
 rcases Rat.mul_eq_zero.1 d with f | f<;>grind
theorem Fw5 {p p' c c':Nat→Rat} {n:Nat} (d:c 0=1) (h0':c' 0=1) (hp:∀ k,0<k→k≤n→p k=p' k) (h:∀ k,k<n→((k+1:Nat):Rat)*c (k+1) = - sm (k+1) fun i=>c i*p (k+1-i))
 (h':∀ k,k<n→((k+1:Nat):Rat)*c' (k+1) = - sm (k+1) fun i=>c' i*p' (k+1-i)):∀ k,k≤n→c k=c' k:=by
 intro k
 induction k using Nat.strongRecOn with
 | ind k ih=>
   intro hk
   cases k with
   | zero=>rw [d,h0']
   | succ k=>
     refine Fu2 (Cn3 k) ?_
     rw [h k (by omega),h' k (by omega)]
     congr 1
     exact Aa2 fun i hi=>by rw [ih i (by omega) (by omega),hp _ (by omega) (by omega)]
theorem IsN.mul {p d c b:Nat→Rat} (h:IsN p c) (hb:b 0=1) (hd:dv b=fun k => - cv b d k):IsN (fun k=>p k+d k) (cv c b):=by
 refine ⟨?_,?_⟩
 · show 0+c 0*b (0-0)=1
   rw [h.1,hb,BG,AM]
 · rw [Gy5,h.2,hd,Ei1]
   funext k
   rw [Gl0]
   have f:cv (fun k => - cv c p k) b k = - cv (cv c b) p k:=by
    rw [Cx9,Ei1,← Dl2,Cx9 b c]
   have g:cv c (cv b d) k=cv (cv c b) d k:=by rw [Dl2]
   rw [f]
   show-cv (cv c b) p k + - cv c (cv b d) k = - (cv (cv c b) p k+cv (cv c b) d k)
   rw [g];grind
end Go.Ine
/-
  Characteristic polynomials over rationals: corner after corner; sums of the diagonals of powers. No condition.
-/
namespace Go.Ine
section
variable (A:Nat→Nat→Rat)
def pw (m:Nat):Nat→Nat→Nat→Rat
 | 0,i,j=>if i=j then 1 else 0
 | k+1,i,j=>sm m fun l=>A i l*pw m k l j
def tr (m k:Nat):Rat:=if k=0 then 0 else sm m fun i=>pw A m k i i
def wC (m:Nat):Nat→Nat→Rat
 | 0,i=>A i m
 | r+1,i=>sm m fun l=>A i l*wC m r l
def xR (m:Nat):Nat→Nat→Rat
 | 0,j=>A m j
 | u+1,j=>sm m fun l=>xR m u l*A l j
def hS (m r:Nat):Rat:=sm m fun i=>A m i*wC A m r i
def bS (m:Nat):Nat→Rat
 | 0=>1
 | 1 => - A m m
 | k+2 => - hS A m k
def ber:Nat→Nat→Rat
 | 0=>un
 | m+1=>cv (ber m) (bS A m)
end
section
variable {A:Nat→Nat→Rat}
theorem xw {m:Nat}:∀ (u r:Nat),sm m (fun i=>xR A m u i*wC A m r i)=hS A m (u+r)
 | 0,r=>by rw [Nat.zero_add];rfl
 | u+1,r=>by
   have e:sm m (fun i=>xR A m (u+1) i*wC A m r i)=sm m fun i=>sm m fun l=>xR A m u l*A l i*wC A m r i:=Aa2 fun i _=>(An0 _ _ _).symm
   rw [e,Ae9]
   have d:(sm m fun l=>sm m fun i=>xR A m u l*A l i*wC A m r i)=sm m fun l=>xR A m u l*wC A m (r+1) l:=Aa2 fun l _=>by
    show _=xR A m u l*sm m fun i=>A l i*wC A m r i
    rw [← Ab9]
    exact Aa2 fun i _=>AP ..
   rw [d,xw u (r+1)]
   congr 1;omega
theorem Gw3 {m i:Nat} (f:Nat→Rat) (hi:i<m):(sm m fun l=>(if i=l then 1 else 0)*f l)=f i:=by
 rw [Am0 hi fun k _ hne=>by rw [if_neg (by omega),AG],if_pos rfl,AZ]
theorem Fo8 {m j:Nat} (f:Nat→Rat) (hj:j<m):(sm m fun l=>f l*(if l=j then 1 else 0))=f j:=by
 rw [Am0 hj fun k _ hne=>by rw [if_neg (by omega),AL],if_pos rfl,AM]
theorem Hd8 {m:Nat}:∀ {k i j:Nat},i<m→j<m→pw A m (k+1) i j=sm m fun l=>pw A m k i l*A l j
 | 0,i,j,hi,hj=>by
   show (sm m fun l=>A i l*(if l=j then 1 else 0))=sm m fun l=>(if i=l then 1 else 0)*A l j
   rw [Fo8 _ hj,Gw3 _ hi]
 | k+1,i,j,hi,hj=>by
   have d:pw A m (k+2) i j=sm m fun l=>sm m fun q=>A i l*pw A m k l q*A q j:=by
    show (sm m fun l=>A i l*pw A m (k+1) l j)=_
    refine Aa2 fun l hl=>?_
    rw [Hd8 hl hj,← Ab9]
    exact Aa2 fun q _=>(AP ..).symm
   rw [d,Ae9]
   refine Aa2 fun q _=>?_
   rw [An0];rfl
variable {m:Nat}
abbrev gg (A:Nat→Nat→Rat) (m k:Nat):Rat:=pw A (m+1) k m m
theorem y_t:∀ (k i:Nat),i<m→pw A (m+1) k i m=sm k fun q=>gg A m q*wC A m (k-1-q) i
 | 0,i,hi=>by
   show (if i=m then (1:Rat) else 0)=0
   rw [if_neg (by omega)]
 | k+1,i,hi=>by
   show sm m (fun l=>A i l*pw A (m+1) k l m)+A i m*pw A (m+1) k m m=sm k (fun q=>gg A m q*wC A m (k+1-1-q) i)+gg A m k*wC A m (k+1-1-k) i
   have e:sm m (fun l=>A i l*pw A (m+1) k l m)=sm k fun q=>gg A m q*wC A m (k+1-1-q) i:=by
    have d:sm m (fun l=>A i l*pw A (m+1) k l m)=sm m fun l=>sm k fun q=>gg A m q*(A i l*wC A m (k-1-q) l):=Aa2 fun l hl=>by
     rw [y_t k l hl,← Ab9]
     exact Aa2 fun q _=>by grind
    rw [d,Ae9]
    refine Aa2 fun q hq=>?_
    rw [Ab9,show k+1-1-q=(k-1-q)+1 by omega];rfl
   rw [e,show k+1-1-k=0 by omega]
   show _+A i m*pw A (m+1) k m m=_+pw A (m+1) k m m*A i m
   rw [BB (A i m)]
theorem z_t:∀ (k j:Nat),j<m→pw A (m+1) k m j=sm k fun q=>gg A m q*xR A m (k-1-q) j
 | 0,j,hj=>by
   show (if m=j then (1:Rat) else 0)=0
   rw [if_neg (by omega)]
 | k+1,j,hj=>by
   rw [Hd8 (by omega) (by omega)]
   show sm m (fun l=>pw A (m+1) k m l*A l j)+pw A (m+1) k m m*A m j=sm k (fun q=>gg A m q*xR A m (k+1-1-q) j)+gg A m k*xR A m (k+1-1-k) j
   have e:sm m (fun l=>pw A (m+1) k m l*A l j)=sm k fun q=>gg A m q*xR A m (k+1-1-q) j:=by
    have d:sm m (fun l=>pw A (m+1) k m l*A l j)=sm m fun l=>sm k fun q=>gg A m q*(xR A m (k-1-q) l*A l j):=Aa2 fun l hl=>by
     rw [z_t k l hl,← An0]
     exact Aa2 fun q _=>by grind
    rw [d,Ae9]
    refine Aa2 fun q hq=>?_
    rw [Ab9,show k+1-1-q=(k-1-q)+1 by omega];rfl
   rw [e,show k+1-1-k=0 by omega]
   rfl
theorem g_t (k:Nat):gg A m (k+1)=sm k (fun q=>gg A m q*hS A m (k-1-q))+A m m*gg A m k:=by
 show sm m (fun l=>A m l*pw A (m+1) k l m)+A m m*pw A (m+1) k m m=_
 congr 1
 have d:sm m (fun l=>A m l*pw A (m+1) k l m)=sm m fun l=>sm k fun q=>gg A m q*(A m l*wC A m (k-1-q) l):=Aa2 fun l hl=>by
  rw [y_t k l hl,← Ab9]
  exact Aa2 fun q _=>by grind
 rw [d,Ae9]
 exact Aa2 fun q hq=>by rw [Ab9];rfl
theorem Gs3:∀ (k i j:Nat),i<m→j<m→pw A (m+1) k i j=pw A m k i j+sm k fun r=>wC A m r i*pw A (m+1) (k-1-r) m j
 | 0,i,j,hi,hj=>by
   show (if i=j then (1:Rat) else 0)=(if i=j then 1 else 0)+0
   rw [BC]
 | k+1,i,j,hi,hj=>by
   rw [Al6]
   show sm m (fun l=>A i l*pw A (m+1) k l j)+A i m*pw A (m+1) k m j=pw A m (k+1) i j+(A i m*pw A (m+1) (k+1-1-0) m j+sm k fun r=>wC A m (r+1) i*pw A (m+1) (k+1-1-(r+1)) m j)
   have e:sm m (fun l=>A i l*pw A (m+1) k l j)=pw A m (k+1) i j+sm k fun r=>wC A m (r+1) i*pw A (m+1) (k+1-1-(r+1)) m j:=by
    have d:sm m (fun l=>A i l*pw A (m+1) k l j)=sm m fun l=>A i l*pw A m k l j+sm k fun r=>(A i l*wC A m r l)*pw A (m+1) (k-1-r) m j:=Aa2 fun l hl=>by
     rw [Gs3 k l j hl hj,BI,← Ab9]
     congr 1
     exact Aa2 fun q _=>(AP ..).symm
    rw [d,Ai2,Ae9]
    congr 1
    refine Aa2 fun r _=>?_
    rw [An0,show k+1-1-(r+1)=k-1-r by omega];rfl
   rw [e,show k+1-1-0=k by omega]
   grind
def dS (A:Nat→Nat→Rat) (m k:Nat):Rat:=if k=0 then 0 else gg A m k+sm (k-1) fun q=>((k-1-q:Nat):Rat)*(gg A m q*hS A m (k-2-q))
theorem fan (f:Nat→Rat):∀ K:Nat,(sm K fun r=>sm (K-r) f)=sm K fun q=>((K-q:Nat):Rat)*f q
 | 0=>rfl
 | K+1=>by
   rw [Al6]
   have e:(sm K fun k=>sm (K+1-(k+1)) f)=sm K fun r=>sm (K-r) f:=Aa2 fun r _=>by rw [show K+1-(r+1)=K-r by omega]
   rw [e,fan f K]
   show sm (K+1-0) f+_=sm K (fun q=>((K+1-q:Nat):Rat)*f q)+((K+1-K:Nat):Rat)*f K
   have d:(sm K fun q=>((K+1-q:Nat):Rat)*f q)=sm K fun q=>((K-q:Nat):Rat)*f q+f q:=Aa2 fun q hq=>by
    rw [show K+1-q=(K-q)+1 by omega,AH]
    have:((1:Nat):Rat)=1:=rfl
    rw [this];grind
   rw [d,Ai2,show K+1-K=1 by omega]
   show sm K f+f K+_=_+sm K f+(1:Rat)*f K
   grind
theorem He8 (k:Nat):tr A (m+1) k=tr A m k+dS A m k:=by
 cases k with
 | zero=>show (0:Rat)=0+0;rw [BC]
 | succ K=>
   show sm m (fun i=>pw A (m+1) (K+1) i i)+gg A m (K+1)=sm m (fun i=>pw A m (K+1) i i)+(gg A m (K+1)+sm (K+1-1) fun q=>((K+1-1-q:Nat):Rat)*(gg A m q*hS A m (K+1-2-q)))
   have d:sm m (fun i=>pw A (m+1) (K+1) i i)=sm m (fun i=>pw A m (K+1) i i)+sm m fun i=>sm (K+1) fun r=>wC A m r i*pw A (m+1) (K+1-1-r) m i:=by
    rw [← Ai2]
    exact Aa2 fun i hi=>Gs3 (K+1) i i hi hi
   have f:(sm m fun i=>sm (K+1) fun r=>wC A m r i*pw A (m+1) (K+1-1-r) m i)=sm (K+1) fun r=>sm (K-r) fun q=>gg A m q*hS A m (K-1-q):=by
    rw [Ae9]
    refine Aa2 fun r hr=>?_
    have g:(sm m fun i=>wC A m r i*pw A (m+1) (K+1-1-r) m i)=sm m fun i=>sm (K-r) fun q=>gg A m q*(xR A m (K-r-1-q) i*wC A m r i):=Aa2 fun i hi=>by
     rw [z_t _ i hi,← Ab9,show K+1-1-r=K-r by omega]
     exact Aa2 fun q _=>by grind
    rw [g,Ae9]
    refine Aa2 fun q hq=>?_
    rw [Ab9,xw]
    congr 2;omega
   have h:(sm (K+1) fun r=>sm (K-r) fun q=>gg A m q*hS A m (K-1-q))=sm K fun q=>((K-q:Nat):Rat)*(gg A m q*hS A m (K-1-q)):=by
    show sm K (fun r=>sm (K-r) fun q=>gg A m q*hS A m (K-1-q))+sm (K-K) _=_
    rw [fan,BH]
    exact BC _
   rw [d,f,h,show K+1-1=K by omega]
   have j:(sm K fun q=>((K-q:Nat):Rat)*(gg A m q*hS A m (K+1-2-q)))=sm K fun q=>((K-q:Nat):Rat)*(gg A m q*hS A m (K-1-q)):=Aa2 fun q _=>by rw [show K+1-2-q=K-1-q by omega]
   rw [j];grind
theorem Gp3:cv (bS A m) (gg A m)=un:=by
 funext k
 cases k with
 | zero=>
   show 0+(1:Rat)*(if m=m then 1 else 0)=1
   rw [if_pos rfl,BG,AM]
 | succ k=>
   show cv (bS A m) (gg A m) (k+1)=0
   unfold cv
   rw [Al6,Al6]
   show (1:Rat)*gg A m (k+1)+(- A m m*gg A m k+sm k fun s => - hS A m s*gg A m (k+1-(s+1+1)))=0
   have e:(sm k fun s => - hS A m s*gg A m (k+1-(s+1+1))) = -1*sm k fun q=>gg A m q*hS A m (k-1-q):=by
    rw [← Ab9]
    cases k with
    | zero=>rfl
    | succ k=>
      rw [El2]
      refine Aa2 fun q hq=>?_
      rw [show k+1+1-(k-q+1+1)=q by omega,show k+1-1-q=k-q by omega]
      grind
   rw [e,g_t];grind
theorem d_t:dv (bS A m)=fun k => - cv (bS A m) (dS A m) k:=by
 have key:dS A m=fun k => - cv (gg A m) (dv (bS A m)) k:=by
  funext k
  cases k with
  | zero=>
    show (0:Rat) = - (0+gg A m 0*(((0:Nat):Rat)*1))
    have:((0:Nat):Rat)=0:=rfl
    rw [this];grind
  | succ K=>
    have hu:cv (bS A m) (gg A m) (K+1)=0:=by rw [Gp3];rfl
    rw [Cx9]
    have hsum:cv (bS A m) (gg A m) (K+1)-cv (dv (bS A m)) (gg A m) (K+1)=gg A m (K+1)+sm K fun s=>((s+1:Nat):Rat)*(hS A m s*gg A m (K-1-s)):=by
     unfold cv
     rw [Al6,Al6,Al6 (fun i=>dv (bS A m) i*gg A m (K+1-i)),Al6 (fun k=>dv (bS A m) (k+1)*gg A m (K+1-(k+1)))]
     show (1:Rat)*gg A m (K+1)+(- A m m*gg A m K+sm K fun s => - hS A m s*gg A m (K+1-(s+1+1)))-(((0:Nat):Rat)*1*gg A m (K+1)+(((1:Nat):Rat) * - A m m*gg A m K+sm K fun s=>(((s+2:Nat):Rat) * - hS A m s)*gg A m (K+1-(s+1+1))))=_
     have f:((0:Nat):Rat)=0:=rfl
     have d:((1:Nat):Rat)=1:=rfl
     have e:(sm K fun s => - hS A m s*gg A m (K+1-(s+1+1))) + -1*(sm K fun s=>(((s+2:Nat):Rat) * - hS A m s)*gg A m (K+1-(s+1+1)))=sm K fun s=>((s+1:Nat):Rat)*(hS A m s*gg A m (K-1-s)):=by
      rw [← Ab9,← Ai2]
      refine Aa2 fun s _=>?_
      rw [show K+1-(s+1+1)=K-1-s by omega,show s+2=(s+1)+1 by omega,AH (s+1) 1,d]
      grind
     rw [f,d]
     grind
    have hr:(sm K fun s=>((s+1:Nat):Rat)*(hS A m s*gg A m (K-1-s)))=sm (K+1-1) fun q=>((K+1-1-q:Nat):Rat)*(gg A m q*hS A m (K+1-2-q)):=by
     rw [show K+1-1=K by omega]
     cases K with
     | zero=>rfl
     | succ K=>
       rw [El2]
       refine Aa2 fun q hq=>?_
       rw [show K+1-1-(K-q)=q by omega,show K-q+1=K+1-q by omega,show K+1+1-2-q=K-q by omega,BB (hS A m (K-q))]
    show gg A m (K+1)+(sm (K+1-1) fun q=>((K+1-1-q:Nat):Rat)*(gg A m q*hS A m (K+1-2-q))) = - cv (dv (bS A m)) (gg A m) (K+1)
    rw [← hr]
    grind
 have e:cv (bS A m) (dS A m)=fun k => - dv (bS A m) k:=by
  rw [key,Ei1,← Dl2,Gp3,Gn2]
 funext k
 rw [e];grind
theorem Ei2:∀ m:Nat,IsN (tr A m) (ber A m)
 | 0=>by
   refine ⟨rfl,?_⟩
   funext k
   show (k:Rat)*un k = - cv un (tr A 0) k
   rw [Gn2]
   cases k with
   | zero=>
    show ((0:Nat):Rat)*1 = - 0
    have f:((0:Nat):Rat)=0:=rfl
    rw [f];grind
   | succ k=>
    show ((k+1:Nat):Rat)*0 = - 0
    grind
 | m+1=>by
   have h:=(Ei2 m).mul (b:=bS A m) (d:=dS A m) rfl d_t
   have e:tr A (m+1)=fun k=>tr A m k+dS A m k:=funext fun k=>He8 k
   rw [e];exact h
end
end Go.Ine
/-
  Characteristic polynomials over rationals: whole numbers, turned bases, diagonals, the road by traces. No condition.
-/
namespace Go.Ine
def IsI (x:Rat):Prop:=∃ z:Int,x=z
theorem IsI.add {x y:Rat} (h:IsI x) (k:IsI y):IsI (x+y):=by
 obtain ⟨a,rfl⟩:=h
 obtain ⟨b,rfl⟩:=k
 exact ⟨a+b,(Rat.intCast_add a b).symm⟩
theorem IsI.mul {x y:Rat} (h:IsI x) (k:IsI y):IsI (x*y):=by
 obtain ⟨a,rfl⟩:=h
 obtain ⟨b,rfl⟩:=k
 exact ⟨a*b,(AV a b).symm⟩
theorem IsI.neg {x:Rat} (h:IsI x):IsI (- x):=by
 obtain ⟨a,rfl⟩:=h
 exact ⟨-a,(BE a).symm⟩
theorem IsI.sm {f:Nat→Rat}:∀ {n:Nat},(∀ k,k<n→IsI (f k))→IsI (Go.Ine.sm n f)
 | 0,_=>⟨0,rfl⟩
 | n+1,h=>(IsI.sm fun k hk=>h k (by omega)).add (h n (by omega))
theorem IsI.one:IsI 1:=⟨1,rfl⟩
theorem IsI.zero:IsI 0:=⟨0,rfl⟩
section
variable {A:Nat→Nat→Rat}
theorem Fz2 {m:Nat} (h:∀ i j,IsI (A i j)):∀ r i,IsI (wC A m r i)
 | 0,i=>h i m
 | r+1,i=>IsI.sm fun l _=>(h i l).mul (Fz2 h r l)
theorem Go7 {m:Nat} (h:∀ i j,IsI (A i j)):∀ k,IsI (bS A m k)
 | 0 => .one
 | 1=>(h m m).neg
 | k+2=>(IsI.sm fun i _=>(h m i).mul (Fz2 h k i)).neg
theorem Ff3 (h:∀ i j,IsI (A i j)):∀ m k,IsI (ber A m k)
 | 0,k=>by
   show IsI (un k)
   unfold un
   split
   · exact .one
   · exact .zero
 | m+1,k=>IsI.sm fun i _=>(Ff3 h m i).mul (Go7 h (k-i))
def flN (A:Nat→Nat→Rat) (n:Nat) (c:Nat→Rat) (k i j:Nat):Rat:=sm k fun q=>c q*pw A n (k-q) i j
theorem Gh3 {n k i j:Nat} (c:Nat→Rat) (hi:i<n) (hj:j<n):(sm n fun l=>A i l*(flN A n c k l j+if l=j then c k else 0))=flN A n c (k+1) i j:=by
 unfold flN
 show _=sm k (fun q=>c q*pw A n (k+1-q) i j)+c k*pw A n (k+1-k) i j
 have d:(sm n fun l=>A i l*((sm k fun q=>c q*pw A n (k-q) l j)+if l=j then c k else 0))=(sm n fun l=>sm k fun q=>c q*(A i l*pw A n (k-q) l j))+sm n fun l=>c k*(A i l*if l=j then 1 else 0):=by
  rw [← Ai2]
  refine Aa2 fun l _=>?_
  rw [BI,← Ab9]
  congr 1
  · exact Aa2 fun q _=>by grind
  · split<;>grind
 rw [d,Ae9,Ab9,show k+1-k=1 by omega]
 congr 1
 refine Aa2 fun q hq=>?_
 rw [Ab9,show k+1-q=(k-q)+1 by omega];rfl
theorem Ha4 {n k:Nat} (c:Nat→Rat):(sm n fun i=>flN A n c (k+1) i i)=sm (k+1) fun q=>c q*tr A n (k+1-q):=by
 unfold flN
 rw [Ae9]
 refine Aa2 fun q hq=>?_
 rw [Ab9]
 unfold tr
 rw [if_neg (by omega)]
def cj (n:Nat) (Q A:Nat→Nat→Rat) (i j:Nat):Rat:=sm n fun p=>sm n fun q=>Q p i*A p q*Q q j
def Ex6 (n:Nat) (Q:Nat→Nat→Rat):Prop:=∀ p q,p<n→q<n→(sm n fun i=>Q p i*Q q i)=if p=q then 1 else 0
theorem Gc0 {n i j k:Nat} {Q:Nat→Nat→Rat} (hQ:Ex6 n Q) (hi:i<n) (hj:j<n):(sm n fun l=>cj n Q A i l*cj n Q (fun p q=>pw A n k p q) l j)=cj n Q (fun p q=>pw A n (k+1) p q) i j:=by
 have d:(sm n fun l=>cj n Q A i l*cj n Q (fun p q=>pw A n k p q) l j)=sm n fun p=>sm n fun q=>sm n fun r=>sm n fun s=>(Q p i*A p q*(pw A n k r s*Q s j))*(sm n fun l=>Q q l*Q r l):=by
  have f:(sm n fun l=>cj n Q A i l*cj n Q (fun p q=>pw A n k p q) l j)=sm n fun l=>sm n fun p=>sm n fun q=>sm n fun r=>sm n fun s=>(Q p i*A p q*(pw A n k r s*Q s j))*(Q q l*Q r l):=Aa2 fun l _=>by
   unfold cj
   rw [← An0]
   refine Aa2 fun p _=>?_
   rw [← An0]
   refine Aa2 fun q _=>?_
   rw [← Ab9]
   refine Aa2 fun r _=>?_
   rw [← Ab9]
   exact Aa2 fun s _=>by grind
  rw [f,Ae9]
  refine Aa2 fun p _=>?_
  rw [Ae9]
  refine Aa2 fun q _=>?_
  rw [Ae9]
  refine Aa2 fun r _=>?_
  rw [Ae9]
  exact Aa2 fun s _=>by rw [Ab9]
 rw [d]
 refine Aa2 fun p _=>?_
 have g:(sm n fun q=>sm n fun r=>sm n fun s=>(Q p i*A p q*(pw A n k r s*Q s j))*(sm n fun l=>Q q l*Q r l))=sm n fun q=>sm n fun s=>Q p i*A p q*(pw A n k q s*Q s j):=Aa2 fun q hq=>by
  rw [Am0 hq fun r hr hne=>Am4 fun s _=>by rw [hQ q r hq hr,if_neg (by omega),AL]]
  refine Aa2 fun s _=>?_
  rw [hQ q q hq hq,if_pos rfl,AM]
 rw [g,Ae9]
 refine Aa2 fun s _=>?_
 show _=Q p i*(sm n fun l=>A p l*pw A n k l s)*Q s j
 rw [← Ab9,← An0]
 exact Aa2 fun q _=>by grind
theorem Gs4 {n:Nat} {Q:Nat→Nat→Rat} (hQ:Ex6 n Q):∀ (k i j:Nat),i<n→j<n→pw (cj n Q A) n (k+1) i j=cj n Q (fun p q=>pw A n (k+1) p q) i j
 | 0,i,j,hi,hj=>by
   show (sm n fun l=>cj n Q A i l*(if l=j then 1 else 0))=_
   rw [Fo8 _ hj]
   refine Aa2 fun p hp=>Aa2 fun q hq=>?_
   show _=Q p i*(sm n fun l=>A p l*(if l=q then 1 else 0))*Q q j
   rw [Fo8 _ hq]
 | k+1,i,j,hi,hj=>by
   rw [← Gc0 hQ hi hj]
   show (sm n fun l=>cj n Q A i l*pw (cj n Q A) n (k+1) l j)=_
   exact Aa2 fun l hl=>by rw [Gs4 hQ k l j hl hj]
theorem Gq0 {n:Nat} {Q:Nat→Nat→Rat} (hQ:Ex6 n Q) (k:Nat):tr (cj n Q A) n k=tr A n k:=by
 cases k with
 | zero=>rfl
 | succ k=>
   show (sm n fun i=>pw (cj n Q A) n (k+1) i i)=sm n fun i=>pw A n (k+1) i i
   have d:(sm n fun i=>pw (cj n Q A) n (k+1) i i)=sm n fun i=>sm n fun p=>sm n fun q=>pw A n (k+1) p q*(Q p i*Q q i):=Aa2 fun i hi=>by
    rw [Gs4 hQ k i i hi hi]
    exact Aa2 fun p _=>Aa2 fun q _=>by grind
   rw [d,Ae9]
   refine Aa2 fun p hp=>?_
   rw [Ae9]
   have f:(sm n fun q=>sm n fun i=>pw A n (k+1) p q*(Q p i*Q q i))=sm n fun q=>pw A n (k+1) p q*(if p=q then 1 else 0):=Aa2 fun q hq=>by
    rw [Ab9,hQ p q hp hq]
   rw [f,Am0 hp fun q _ hne=>by rw [if_neg (by omega),AL],if_pos rfl,AM]
theorem Go0 {n:Nat} {Q:Nat→Nat→Rat} (hQ:Ex6 n Q) (k:Nat):ber (cj n Q A) n k=ber A n k:=
 Fw5 (n:=k) (p:=tr (cj n Q A) n) (p':=tr A n) (Ei2 n).1 (Ei2 n).1 (fun j _ _=>Gq0 hQ j) (fun j _=>(Ei2 n).step rfl j) (fun j _=>(Ei2 n).step rfl j) k (AD _)
theorem Fk3 {m:Nat} (h:∀ i,i<m→A i m=0):∀ r i,i<m→wC A m r i=0
 | 0,i,hi=>h i hi
 | r+1,i,hi=>Am4 fun l hl=>by rw [Fk3 h r l hl,AL]
theorem Fq4 {m:Nat} (h:∀ i,i<m→A i m=0) (k:Nat):ber A (m+1) (k+1)=ber A m (k+1) + - A m m*ber A m k:=by
 show cv (ber A m) (bS A m) (k+1)=_
 rw [Cx9]
 unfold cv
 rw [Al6,Al6,Am4 fun s hs=>?_]
 · show 1*ber A m (k+1)+(- A m m*ber A m k+0)=_
   grind
 · show-hS A m s*_=0
   unfold hS
   rw [Am4 fun i hi=>by rw [Fk3 h s i hi,AL]]
   grind
theorem Dj8 (A:Nat→Nat→Rat) (m:Nat):ber A m 0=1:=(Ei2 m).1
end
end Go.Ine
/-
  A symmetric matrix of rationals may be turned until it is almost a diagonal. No condition.
-/
namespace Go.Ine
def Ap7 (A:Nat→Nat→Rat) (x:Rat) (i j:Nat):Rat:=A i j-if i=j then x else 0
def Up (n:Nat) (A:Nat→Nat→Rat) (x:Rat) (a:Nat):Prop:=∃ W:Nat→Nat→Rat,∀ c:Nat→Rat,(∃ i,i<a∧c i≠0)→0<bil n (Ap7 A x) (lc a c W) (lc a c W)
structure Rel (n:Nat) (A X:Nat→Nat→Rat):Prop where
 sym:∀ i j,X i j=X j i
 ber:∀ k,ber X n k=ber A n k
 two:tr X n 2=tr A n 2
 sig:∀ x b a,Sig n (Ap7 A x) b a→Sig n (Ap7 X x) b a
 up:∀ x a,Up n A x a→Up n X x a
theorem Rel.refl {n:Nat} {A:Nat→Nat→Rat} (h:∀ i j,A i j=A j i):Rel n A A:=⟨h,fun _=>rfl,rfl,fun _ _ _ h=>h,fun _ _ h=>h⟩
theorem Rel.trans {n:Nat} {A X Y:Nat→Nat→Rat} (h:Rel n A X) (k:Rel n X Y):Rel n A Y:=
 ⟨k.sym,fun j=>(k.ber j).trans (h.ber j),k.two.trans h.two,fun x b a g=>k.sig x b a (h.sig x b a g),fun x a g=>k.up x a (h.up x a g)⟩
theorem Gp2 {n:Nat} {Q A:Nat→Nat→Rat} (h:∀ i j,A i j=A j i) (i j:Nat):cj n Q A i j=cj n Q A j i:=by
 unfold cj
 rw [Ae9]
 exact Aa2 fun p _=>Aa2 fun q _=>by rw [h q p];grind
theorem Gl1 {n:Nat} {Q A:Nat→Nat→Rat} (hQ:Ex6 n Q) {p q:Nat} (hp:p<n) (hq:q<n):bil n (cj n Q A) (Q p) (Q q)=A p q:=by
 unfold bil cj
 have d:(sm n fun i=>sm n fun j=>Q p i*(sm n fun r=>sm n fun s=>Q r i*A r s*Q s j)*Q q j)=sm n fun r=>sm n fun s=>A r s*(sm n fun i=>Q p i*Q r i)*(sm n fun j=>Q q j*Q s j):=by
  have f:(sm n fun i=>sm n fun j=>Q p i*(sm n fun r=>sm n fun s=>Q r i*A r s*Q s j)*Q q j)=sm n fun i=>sm n fun j=>sm n fun r=>sm n fun s=>A r s*(Q p i*Q r i)*(Q q j*Q s j):=Aa2 fun i _=>Aa2 fun j _=>by
   rw [← Ab9,← An0]
   refine Aa2 fun r _=>?_
   rw [← Ab9,← An0]
   exact Aa2 fun s _=>by grind
  have g:∀ i,(sm n fun j=>sm n fun r=>sm n fun s=>A r s*(Q p i*Q r i)*(Q q j*Q s j))=sm n fun r=>sm n fun s=>A r s*(Q p i*Q r i)*(sm n fun j=>Q q j*Q s j):=fun i=>by
   rw [Ae9]
   refine Aa2 fun r _=>?_
   rw [Ae9]
   exact Aa2 fun s _=>by rw [Ab9]
  rw [f,Aa2 (fun i _=>g i),Ae9]
  refine Aa2 fun r _=>?_
  rw [Ae9]
  refine Aa2 fun s _=>?_
  rw [An0,Ab9]
 rw [d,Am0 hp fun r hr hne=>Am4 fun s _=>by rw [hQ p r hp hr,if_neg (by omega)];grind]
 rw [Am0 hq fun s hs hne=>by rw [hQ q s hq hs,if_neg (by omega)];grind]
 rw [hQ p p hp hp,hQ q q hq hq,if_pos rfl,if_pos rfl];grind
theorem Ft5 {n:Nat} {Q:Nat→Nat→Rat} (hQ:Ex6 n Q) (c:Nat→Rat) (h:∀ k,k<n→lc n c Q k=0):∀ i,i<n→c i=0:=fun q hq=>by
 have e:(sm n fun k=>lc n c Q k*Q q k)=c q:=by
  unfold lc
  have d:(sm n fun k=>(sm n fun i=>c i*Q i k)*Q q k)=sm n fun i=>c i*(sm n fun k=>Q i k*Q q k):=by
   have f:(sm n fun k=>(sm n fun i=>c i*Q i k)*Q q k)=sm n fun k=>sm n fun i=>c i*(Q i k*Q q k):=Aa2 fun k _=>by
    rw [← An0]
    exact Aa2 fun i _=>by grind
   rw [f,Ae9]
   exact Aa2 fun i _=>by rw [Ab9]
  rw [d,Am0 hq fun i hi hne=>by rw [hQ i q hi hq,if_neg hne,AL],hQ q q hq hq,if_pos rfl,AM]
 rw [← e]
 exact Am4 fun k hk=>by rw [h k hk,AG]
theorem Ex6.col {n:Nat} {Q:Nat→Nat→Rat} (hQ:Ex6 n Q) {A:Nat→Nat→Rat} (x:Rat):∀ p q,p<n→q<n→Ap7 A x p q=bil n (Ap7 (cj n Q A) x) (Q p) (Q q):=fun p q hp hq=>by
 have e:bil n (Ap7 (cj n Q A) x) (Q p) (Q q)=bil n (cj n Q A) (Q p) (Q q)-x*sm n fun i=>Q p i*Q q i:=by
  unfold bil Ap7
  have:(sm n fun i=>sm n fun j=>Q p i*(cj n Q A i j-if i=j then x else 0)*Q q j)=sm n fun i=>(sm n fun j=>Q p i*cj n Q A i j*Q q j) + -1*(x*(Q p i*Q q i)):=Aa2 fun i hi=>by
   have a:(sm n fun j=>Q p i*(cj n Q A i j-if i=j then x else 0)*Q q j)=sm n fun j=>Q p i*cj n Q A i j*Q q j + -1*(Q p i*(if i=j then x else 0)*Q q j):=Aa2 fun j _=>by grind
   rw [a,Ai2,Ab9]
   congr 2
   rw [Am0 hi fun j _ hne=>by rw [if_neg (by omega)];grind,if_pos rfl];grind
  rw [this,Ai2,Ab9,Ab9];grind
 rw [e,Gl1 hQ hp hq,hQ p q hp hq]
 unfold Ap7
 split<;>grind
def tu (n:Nat) (Q:Nat→Nat→Rat) (v:Nat→Rat) (k:Nat):Rat:=sm n fun p=>v p*Q p k
theorem Gz6 {n a:Nat} {Q W:Nat→Nat→Rat} (c:Nat→Rat) (k:Nat):lc a c (fun i=>tu n Q (W i)) k=tu n Q (lc a c W) k:=by
 unfold lc tu
 have d:(sm a fun i=>c i*sm n fun p=>W i p*Q p k)=sm a fun i=>sm n fun p=>c i*W i p*Q p k:=Aa2 fun i _=>by
  rw [← Ab9]
  exact Aa2 fun p _=>(AP ..).symm
 rw [d,Ae9]
 exact Aa2 fun p _=>by rw [An0]
theorem Gu4 {n:Nat} {Q A:Nat→Nat→Rat} (hQ:Ex6 n Q) (x:Rat) (v:Nat→Rat):bil n (Ap7 (cj n Q A) x) (tu n Q v) (tu n Q v)=bil n (Ap7 A x) v v:=by
 have e:tu n Q v=lc n v Q:=rfl
 rw [e,Fo9]
 show _=sm n fun i=>sm n fun j=>v i*Ap7 A x i j*v j
 refine Aa2 fun i hi=>?_
 rw [Fw7,← Ab9]
 refine Aa2 fun j hj=>?_
 rw [← hQ.col x i j hi hj];grind
theorem Gx6 {n a:Nat} {Q A:Nat→Nat→Rat} {x:Rat} (hQ:Ex6 n Q) (h:Up n A x a):Up n (cj n Q A) x a:=by
 obtain ⟨W,h⟩:=h
 refine ⟨fun i=>tu n Q (W i),fun c hc=>?_⟩
 have e:∀ k,k<n→lc a c (fun i=>tu n Q (W i)) k=tu n Q (lc a c W) k:=fun k _=>Gz6 c k
 rw [Fe2 e e,Gu4 hQ]
 exact h c hc
theorem Go5 {n:Nat} {Q A:Nat→Nat→Rat} (hs:∀ i j,A i j=A j i) (hQ:Ex6 n Q):Rel n A (cj n Q A):=
 ⟨Gp2 hs,fun k=>Go0 hQ k,Gq0 hQ 2,fun x b a h=>Sig.cong (Eh4 (E:=Q) (hQ.col x) (Ft5 hQ)) h,fun x a h=>Gx6 hQ h⟩
def rot (p q:Nat) (c s:Rat) (i j:Nat):Rat:=
 if i=p then (if j=p then c else if j=q then-s else 0) else if i=q then (if j=p then s else if j=q then c else 0) else if i=j then 1 else 0
section
variable {n p q:Nat} {c s:Rat} {X:Nat→Nat→Rat}
theorem Ba8 (hpq:p<q) (hq:q<n) (f:Nat→Rat) (j:Nat) (hj:j=p∨j=q):(sm n fun r=>rot p q c s r j*f r)=rot p q c s p j*f p+rot p q c s q j*f q:=
 Di1 hpq hq fun k _ d g=>by
  unfold rot
  rw [if_neg d,if_neg g,if_neg (by omega),AG]
theorem rot_col' (j:Nat) (hj:j<n) (d:j≠p) (g:j≠q) (f:Nat→Rat):(sm n fun r=>rot p q c s r j*f r)=f j:=by
 rw [Am0 hj fun k _ hne=>by
  unfold rot
  split
  · exact AG _
  · split
    · exact AG _
    · exact AG _]
 unfold rot
 rw [if_neg d,if_neg g,if_pos rfl,AZ]
theorem Ed0 (hpq:p<q) (hq:q<n) (f:Nat→Rat) (i:Nat) (hi:i=p∨i=q):(sm n fun r=>rot p q c s i r*f r)=rot p q c s i p*f p+rot p q c s i q*f q:=
 Di1 hpq hq fun k _ d g=>by
  unfold rot
  rcases hi with rfl | rfl
  · rw [if_pos rfl,if_neg d,if_neg g,AG]
  · rw [if_neg (by omega),if_pos rfl,if_neg d,if_neg g,AG]
theorem rot_row' (i:Nat) (hi:i<n) (d:i≠p) (g:i≠q) (f:Nat→Rat):(sm n fun r=>rot p q c s i r*f r)=f i:=by
 rw [Am0 hi fun k _ hne=>by
  unfold rot
  rw [if_neg d,if_neg g,if_neg (by omega),AG]]
 unfold rot
 rw [if_neg d,if_neg g,if_pos rfl,AZ]
theorem Du5:rot p q c s p p=c:=by unfold rot;rw [if_pos rfl,if_pos rfl]
theorem Dw8 (h:p<q):rot p q c s p q = - s:=by unfold rot;rw [if_pos rfl,if_neg (by omega),if_pos rfl]
theorem Dy8 (h:p<q):rot p q c s q p=s:=by unfold rot;rw [if_neg (by omega),if_pos rfl,if_pos rfl]
theorem Dq2 (h:p<q):rot p q c s q q=c:=by unfold rot;rw [if_neg (by omega),if_pos rfl,if_neg (by omega),if_pos rfl]
theorem Fv4 (hpq:p<q) (hq:q<n) (j:c*c+s*s=1):Ex6 n (rot p q c s):=fun a b ha hb=>by
 by_cases i:a=p∨a=q
 · rw [Ed0 hpq hq _ a i]
   rcases i with rfl | rfl
   · rw [Du5,Dw8 hpq]
     by_cases d:b=a
     · subst d;rw [Du5,Dw8 hpq,if_pos rfl];grind
     · by_cases f:b=q
       · subst f;rw [Dy8 hpq,Dq2 hpq,if_neg (by omega)];grind
       · unfold rot;rw [if_neg d,if_neg f,if_neg d,if_neg d,if_neg f,if_neg f,if_neg (by omega)];grind
   · rw [Dy8 hpq,Dq2 hpq]
     by_cases d:b=p
     · subst d;rw [Du5,Dw8 hpq,if_neg (by omega)];grind
     · by_cases f:b=a
       · subst f;rw [Dy8 hpq,Dq2 hpq,if_pos rfl];grind
       · unfold rot;rw [if_neg d,if_neg f,if_neg d,if_neg d,if_neg f,if_neg f,if_neg (by omega)];grind
 · rw [rot_row' a ha (by omega) (by omega)]
   unfold rot
   by_cases d:b=p
   · rw [if_pos d,if_neg (by omega),if_neg (by omega),if_neg (by omega)]
   · rw [if_neg d]
     by_cases f:b=q
     · rw [if_pos f,if_neg (by omega),if_neg (by omega),if_neg (by omega)]
     · rw [if_neg f]
       by_cases g:a=b
       · rw [if_pos g,if_pos g.symm]
       · rw [if_neg g,if_neg (fun h=>g h.symm)]
theorem El7 (i j:Nat) (Q:Nat→Nat→Rat):cj n Q X i j=sm n fun r=>Q r i*sm n fun t=>Q t j*X r t:=by
 unfold cj
 refine Aa2 fun r _=>?_
 rw [← Ab9]
 exact Aa2 fun t _=>by grind
theorem Gn3 (hpq:p<q) (hq:q<n) {i:Nat} (hi:i<n) (d:i≠p) (f:i≠q):cj n (rot p q c s) X i i=X i i:=by
 rw [El7,rot_col' i hi d f,rot_col' i hi d f]
theorem Gs5 (hpq:p<q) (hq:q<n) (hs:X q p=X p q) :
 cj n (rot p q c s) X p p=c*(c*X p p+s*X p q)+s*(c*X p q+s*X q q)∧cj n (rot p q c s) X q q = - s*(- s*X p p+c*X p q)+c*(- s*X p q+c*X q q) ∧
 cj n (rot p q c s) X p q=c*(- s*X p p+c*X p q)+s*(- s*X p q+c*X q q):=by
 refine ⟨?_,?_,?_⟩
 · rw [El7,Ba8 hpq hq _ p (.inl rfl),Ba8 hpq hq _ p (.inl rfl),Ba8 hpq hq _ p (.inl rfl),Du5,Dy8 hpq,hs]
 · rw [El7,Ba8 hpq hq _ q (.inr rfl),Ba8 hpq hq _ q (.inr rfl),Ba8 hpq hq _ q (.inr rfl),Dw8 hpq,Dq2 hpq,hs]
 · rw [El7,Ba8 hpq hq _ p (.inl rfl),Ba8 hpq hq _ q (.inr rfl),Ba8 hpq hq _ q (.inr rfl),Du5,Dy8 hpq,Dw8 hpq,Dq2 hpq,hs]
end
theorem Hc7 {a b h c s a' b' h':Rat} (f:c*c+s*s=1) (ea:a'=c*(c*a+s*h)+s*(c*h+s*b)) (eb:b' = - s*(- s*a+c*h)+c*(- s*h+c*b)) (eh:h'=c*(- s*a+c*h)+s*(- s*h+c*b)) :
 a'*a'+b'*b'+2*(h'*h')=a*a+b*b+2*(h*h):=by
 have t:a'+b'=(c*c+s*s)*(a+b):=by rw [ea,eb];grind
 have d:a'*b'-h'*h'=(c*c+s*s)*(c*c+s*s)*(a*b-h*h):=by rw [ea,eb,eh];grind
 rw [f] at t d
 have:a'*a'+b'*b'+2*(h'*h')=(a'+b')*(a'+b')-2*(a'*b'-h'*h'):=by grind
 rw [this,t,d];grind
theorem Gc5 {g y K:Rat} (d : - K≤g) (f:g≤K) (j : -2≤y) (i:y≤2):g*y≤2*K:=by
 have hK:0≤K:=by grind
 rcases AR (a:=0) (b:=y) with h | h
 · have a:=AA f h
   have b:=AA i hK
   grind
 · have a:=AA d (show 0 ≤ - y by grind)
   have b:=AA (show-y≤2 by grind) hK
   grind
def pT (g t:Rat):Rat:=1-6*(t*t)+t*t*(t*t)-2*(g*(t-t*(t*t)))
theorem Gh4 {g K a b:Rat} (d : - K≤g) (f:g≤K) (ha:0≤a) (hab:a≤b) (hb:b≤1):pT g a-pT g b≤(b-a)*(12+4*K):=by
 have e:pT g a-pT g b=(b-a)*(6*(a+b)-(a+b)*(a*a+b*b)+2*(g*(1-(a*a+a*b+b*b)))):=by unfold pT;grind
 rw [e]
 refine AA ?_ (by grind)
 have h:0≤a*a:=Ad0 a
 have i:0≤b*b:=Ad0 b
 have j:0≤a*b:=AB ha (by grind)
 have k:0≤(a+b)*(a*a+b*b):=AB (by grind) (by grind)
 have u1:a*a≤1:=by
  have:=AA (show a≤1 by grind) ha
  grind
 have u2:b*b≤1:=by
  have:=AA hb (show 0≤b by grind)
  grind
 have l:a*b≤1:=by
  have:=AA hb ha
  grind
 have:=Gc5 d f (y:=1-(a*a+a*b+b*b)) (by grind) (by grind)
 grind
theorem Fa4 (x:Rat):∃ N:Nat,0<N∧x≤(N:Rat):=by
 refine ⟨x.ceil.toNat+1,by omega,?_⟩
 have d:x≤(x.ceil:Rat):=Rat.le_ceil
 have f:(x.ceil:Rat)≤(((x.ceil.toNat+1:Nat):Int):Rat):=Rat.intCast_le_intCast.2 (by omega)
 exact AN d f
theorem Ec1 (p:Nat→Prop) [DecidablePred p]:∀ N:Nat,¬ p 0→p N→∃ i,i<N ∧ ¬ p i∧p (i+1)
 | 0,d,hN=>absurd hN d
 | N+1,d,hN=>by
   by_cases h:p N
   · obtain ⟨i,a,b⟩:=Ec1 p N d h
     exact ⟨i,by omega,b⟩
   · exact ⟨N,by omega,h,hN⟩
theorem Fv8 (g:Rat):∃ t:Rat,0≤t∧t≤1 ∧ -(1/2)≤pT g t∧pT g t≤1/2:=by
 obtain ⟨K,l,o⟩:∃ K:Rat, - K≤g∧g≤K:=by
  rcases AR (a:=0) (b:=g) with h | h
  · exact ⟨g,by grind,AT⟩
  · exact ⟨- g,by grind,by grind⟩
 obtain ⟨N,hN,hK⟩:=Fa4 (12+4*K)
 have hNp:(0:Rat)<(N:Rat):=by
  obtain ⟨m,rfl⟩:∃ m,N=m+1:=⟨N-1,by omega⟩
  exact Cn3 m
 have hNi:(N:Rat)*(N:Rat)⁻¹=1:=AF _ (by grind)
 have hip:(0:Rat)<(N:Rat)⁻¹:=Rat.inv_pos.2 hNp
 generalize hv:(N:Rat)⁻¹=v at *
 obtain ⟨i,hi,j,d⟩:=Ec1 (fun i=>pT g ((i:Rat)*v)≤1/2) N (by
  show ¬ pT g (((0:Nat):Rat)*v)≤1/2
  have r:((0:Nat):Rat)=0:=rfl
  rw [r,AG]
  unfold pT;grind) (by
  show pT g ((N:Rat)*v)≤1/2
  rw [hNi]
  unfold pT;grind)
 have j : ¬ pT g ((i:Rat)*v)≤1/2:=j
 have d:pT g (((i+1:Nat):Rat)*v)≤1/2:=d
 have f:((i+1:Nat):Rat)=(i:Rat)+1:=AH i 1
 have u:(0:Rat)≤(i:Rat):=by have:=AS (a:=0) (b:=i);exact this.2 (by omega)
 have hiN:((i+1:Nat):Rat)≤(N:Rat):=Rat.natCast_le_natCast.2 (by omega)
 have x:0≤(i:Rat)*v:=AB u (by grind)
 have k:((i+1:Nat):Rat)*v≤1:=by
  have:=AA hiN (show 0≤v by grind)
  grind
 have st:=Gh4 l o x (b:=((i+1:Nat):Rat)*v) (by rw [f];grind) k
 have e:((i+1:Nat):Rat)*v-(i:Rat)*v=v:=by rw [f];grind
 rw [e] at st
 have:=AA hK (show 0≤v by grind)
 exact ⟨((i+1:Nat):Rat)*v,by rw [f];grind,k,by grind,d⟩
theorem He1 (a b h:Rat) (hh:h≠0):∃ c s:Rat,c*c+s*s=1∧4*((c*(- s*a+c*h)+s*(- s*h+c*b))*(c*(- s*a+c*h)+s*(- s*h+c*b)))≤h*h:=by
 obtain ⟨t,y,d,l,u⟩:=Fv8 ((a-b)*h⁻¹)
 have hw:(0:Rat)<1+t*t:=by have:=Ad0 t;grind
 have hwi:(1+t*t)*(1+t*t)⁻¹=1:=AF _ (by grind)
 have hip:(0:Rat)<(1+t*t)⁻¹:=Rat.inv_pos.2 hw
 have g:(1+t*t)⁻¹≤1:=by
  have d:(1:Rat)≤1+t*t:=by have:=Ad0 t;grind
  have:=AA d (show 0≤(1+t*t)⁻¹ by grind)
  grind
 have hhi:h*h⁻¹=1:=AF _ hh
 generalize (1+t*t)⁻¹=w at *
 refine ⟨(1-t*t)*w,2*t*w,?_,?_⟩
 · have:(1-t*t)*w*((1-t*t)*w)+2*t*w*(2*t*w)=((1+t*t)*w)*((1+t*t)*w):=by grind
   rw [this,hwi];grind
 · have e:((1-t*t)*w*(- (2*t*w)*a+(1-t*t)*w*h)+2*t*w*(- (2*t*w)*h+(1-t*t)*w*b))=w*w*(h*pT ((a-b)*h⁻¹) t):=by
    have i:h*((a-b)*h⁻¹*(t-t*(t*t)))=(a-b)*(t-t*(t*t)):=by
     have:h*((a-b)*h⁻¹*(t-t*(t*t)))=(h*h⁻¹)*((a-b)*(t-t*(t*t))):=by grind
     rw [this,hhi,AZ]
    have j:h*pT ((a-b)*h⁻¹) t=h*(1-6*(t*t)+t*t*(t*t))-2*(h*((a-b)*h⁻¹*(t-t*(t*t)))):=by unfold pT;grind
    rw [j,i];grind
   rw [e]
   generalize pT ((a-b)*h⁻¹) t=P at *
   have k:4*(P*P)≤1:=by
    have:0≤(1/2-P)*(P+1/2):=AB (by grind) (by grind)
    grind
   have o:w*w≤1:=by
    have:=AA g (show 0≤w by grind)
    grind
   have r:(w*w)*(w*w)≤1:=by
    have:=AA o (Ad0 w)
    grind
   have f:=Ad0 h
   have z:4*(P*P)*(h*h)≤h*h:=by
    have:=AA k f
    grind
   have v:0≤4*(P*P)*(h*h):=AB (AB (by grind) (Ad0 P)) f
   have q2:=AA r v
   have x:4*(w*w*(h*P)*(w*w*(h*P)))=4*(P*P)*(h*h)*((w*w)*(w*w)):=by grind
   rw [x];grind
def dg (n:Nat) (X:Nat→Nat→Rat):Rat:=sm n fun i=>X i i*X i i
theorem Ek4 {n:Nat} {X:Nat→Nat→Rat} (hs:∀ i j,X i j=X j i):tr X n 2=sm n fun i=>sm n fun l=>X i l*X i l:=by
 show (sm n fun i=>pw X n 2 i i)=_
 refine Aa2 fun i hi=>?_
 show (sm n fun l=>X i l*pw X n 1 l i)=_
 refine Aa2 fun l hl=>?_
 have e:pw X n 1 l i=X l i:=Fo8 _ hi
 rw [e,hs l i]
theorem Ez2 {f:Nat→Rat} {n i:Nat} (h:∀ k,k<n→0≤f k) (hi:i<n):f i≤sm n f:=by
 induction n with
 | zero=>omega
 | succ n ih=>
   have d:=An7 (f:=f) (n:=n) fun k hk=>h k (by omega)
   have g:=h n (by omega)
   unfold sm
   by_cases c:i=n
   · subst c;grind
   · have:=ih (fun k hk=>h k (by omega)) (by omega)
     grind
theorem Dv4 {f g:Nat→Rat}:∀ {n:Nat},(∀ k,k<n→f k≤g k)→sm n f≤sm n g
 | 0,_=>AT
 | n+1,h=>by
   have a:=Dv4 (n:=n) fun k hk=>h k (by omega)
   have b:=h n (by omega)
   unfold sm;grind
theorem Fc9 {n i j:Nat} {X:Nat→Nat→Rat} (hs:∀ i j,X i j=X j i) (hi:i<n) (hj:j<n):X i j*X i j≤tr X n 2:=by
 rw [Ek4 hs]
 refine AN ?_ (Ez2 (f:=fun i=>sm n fun l=>X i l*X i l) (fun k _=>An7 fun l _=>Ad0 _) hi)
 exact Ez2 (f:=fun l=>X i l*X i l) (fun l _=>Ad0 _) hj
theorem Gz7 {n:Nat} {X:Nat→Nat→Rat} (hs:∀ i j,X i j=X j i):dg n X≤tr X n 2:=by
 rw [Ek4 hs]
 exact Dv4 fun i hi=>Ez2 (f:=fun l=>X i l*X i l) (fun l _=>Ad0 _) hi
theorem Gb6 {n p q:Nat} {X Y:Nat→Nat→Rat} (hpq:p<q) (hq:q<n) (h:∀ i,i<n→i≠p→i≠q→Y i i=X i i):dg n Y=dg n X+((Y p p*Y p p+Y q q*Y q q)-(X p p*X p p+X q q*X q q)):=by
 have e:dg n Y=dg n X+sm n fun i=>Y i i*Y i i-X i i*X i i:=by
  unfold dg
  rw [← Ai2]
  exact Aa2 fun i _=>by grind
 rw [e,Di1 hpq hq fun i hi d f=>by rw [h i hi d f];grind]
 grind
theorem jac {n:Nat} {e:Rat} (he:0<e):∀ (N:Nat) (X:Nat→Nat→Rat),(∀ i j,X i j=X j i)→tr X n 2-dg n X<(N:Rat)*e→∃ Y,Rel n X Y∧∀ i j,i<n→j<n→i≠j→Y i j*Y i j≤e
 | 0,X,hs,h=>by
   have:=Gz7 (n:=n) hs
   have d:((0:Nat):Rat)=0:=rfl
   rw [d] at h
   grind
 | N+1,X,hs,h=>by
   by_cases c:∃ p q,p<q∧q<n∧e<X p q*X p q
   · obtain ⟨p,q,hpq,hq,hc⟩:=c
     have hh:X p q≠0:=fun d=>by rw [d] at hc;grind
     obtain ⟨c,s,f,k⟩:=He1 (X p p) (X q q) (X p q) hh
     have hr:=Go5 (n:=n) hs (Fv4 (c:=c) (s:=s) hpq hq f)
     obtain ⟨ea,eb,eh⟩:=Gs5 (n:=n) (c:=c) (s:=s) hpq hq (hs q p)
     have pl:=Hc7 f ea eb eh
     have dt:=Gb6 (Y:=cj n (rot p q c s) X) hpq hq fun i hi l o=>Gn3 hpq hq hi l o
     rw [← eh] at k
     have hN:((N+1:Nat):Rat)=(N:Rat)+1:=AH N 1
     rw [hN] at h
     generalize cj n (rot p q c s) X=Z at *
     obtain ⟨Y,y1,y2⟩:=jac he N Z hr.sym (by
      rw [hr.two,dt]
      grind)
     exact ⟨Y,hr.trans y1,y2⟩
   · refine ⟨X,Rel.refl hs,fun i j hi hj hne=>?_⟩
     refine Rat.not_lt.1 fun hl=>c ?_
     rcases Nat.lt_or_ge i j with g | g
     · exact ⟨i,j,g,hj,hl⟩
     · exact ⟨j,i,by omega,hi,by rw [hs j i];exact hl⟩
theorem Fz0 {n:Nat} {e:Rat} (he:0<e) {A:Nat→Nat→Rat} (hs:∀ i j,A i j=A j i):∃ Y,Rel n A Y∧∀ i j,i<n→j<n→i≠j→Y i j*Y i j≤e:=by
 obtain ⟨N,_,hN⟩:=Fa4 ((tr A n 2-dg n A)*e⁻¹+1)
 refine jac he N A hs ?_
 have d:e⁻¹*e=1:=AX _ (by grind)
 have f:=AA hN (show 0≤e by grind)
 have g:e*((tr A n 2-dg n A)*e⁻¹+1)=(tr A n 2-dg n A)*(e⁻¹*e)+e:=by grind
 rw [g,d] at f
 grind
end Go.Ine
/-
  Above a level: spaces on which a form is above 0, turned; diagonals; near a diagonal. No condition.
-/
namespace Go.Ine
theorem Gf1 {n a:Nat} {D:Nat→Nat→Rat} {x:Rat} (hD:∀ i j,i<n→j<n→i≠j→D i j=0) (h:Up n D x a):a≤Dc0 n fun i=>D i i-x:=by
 refine Nat.le_of_not_lt fun hlt=>?_
 obtain ⟨W,h⟩:=h
 obtain ⟨c,hc,he⟩:=Gs7 (((List.range n).filter fun i=>decide (0<D i i-x)).map fun i k=>W k i) a (by rw [List.length_map];exact hlt)
 have hp:=h c hc
 have z:∀ i,i<n→0<D i i-x→lc a c W i=0:=fun i hi hd=>by
  have:=he (fun k=>W k i) (List.mem_map.2 ⟨i,List.mem_filter.2 ⟨List.mem_range.2 hi,decide_eq_true hd⟩,rfl⟩)
  unfold lc
  rw [← this]
  exact Aa2 fun k _=>BB ..
 have e:bil n (Ap7 D x) (lc a c W) (lc a c W)=sm n fun i=>(D i i-x)*(lc a c W i*lc a c W i):=by
  unfold bil
  refine Aa2 fun i hi=>?_
  rw [Am0 hi fun j hj hne=>by
   have:Ap7 D x i j=0:=by unfold Ap7;rw [hD i j hi hj (by omega),if_neg (by omega)];grind
   rw [this];grind]
  unfold Ap7
  rw [if_pos rfl];grind
 rw [e] at hp
 have:(sm n fun i=>(D i i-x)*(lc a c W i*lc a c W i))≤0:=by
  have hz:=Dv4 (n:=n) (f:=fun i=>(D i i-x)*(lc a c W i*lc a c W i)) (g:=fun _=>0) fun i hi=>by
   by_cases g:0<D i i-x
   · rw [z i hi g];grind
   · have d:=Ad0 (lc a c W i)
     have l:0 ≤ - (D i i-x):=by grind
     have o:=AB l d
     grind
  rw [Am4 (f:=fun _=>(0:Rat)) fun _ _=>rfl] at hz
  exact hz
 grind
theorem Cu8:∀ (l:List Rat),(∀ x∈l,0<x)→∃ m:Rat,0<m∧∀ x∈l,m≤x
 | [],_=>⟨1,by grind,fun x hx=>by cases hx⟩
 | y::l,h=>by
   obtain ⟨m,f,d⟩:=Cu8 l fun x hx=>h x (AO _ hx)
   have hy:=h y (AJ ..)
   rcases AR (a:=m) (b:=y) with g | g
   · exact ⟨m,f,fun x hx=>(List.mem_cons.1 hx).elim (fun e=>by rw [e];exact g) (d x)⟩
   · exact ⟨y,hy,fun x hx=>(List.mem_cons.1 hx).elim (fun e=>by rw [e];exact AT) fun e=>AN g (d x e)⟩
theorem Fi1 (x y g G:Rat) (i : - g≤G) (j:G≤g):x*G*y≤g*(x*x+y*y):=by
 have d:=Ad0 (x-y)
 have f:=Ad0 (x+y)
 have k:=AB (show 0≤g+G by grind) d
 have l:=AB (show 0≤g-G by grind) f
 have o:=Ad0 x
 have r:=Ad0 y
 have t:=AB (show 0≤g by grind) (show 0≤x*x+y*y by grind)
 have h:(g+G)*((x-y)*(x-y))+(g-G)*((x+y)*(x+y))=2*(g*(x*x+y*y))-4*(x*G*y):=by grind
 have u:0≤2*(g*(x*x+y*y))-4*(x*G*y):=by rw [← h];grind
 grind
theorem Gj3 {a:Nat} {G:Nat→Nat→Rat}:∃ K:Rat,0≤K∧∀ c:Nat→Rat,(sm a fun i=>sm a fun j=>c i*G i j*c j)≤K*sm a fun i=>c i*c i:=by
 let g:Rat:=sm a fun i=>sm a fun j=>G i j*G i j+1
 have d:∀ i j,0≤G i j*G i j+1:=fun i j=>by have:=Ad0 (G i j);grind
 have hg:∀ i j,i<a→j<a → - g≤G i j∧G i j≤g:=fun i j hi hj=>by
  have h:G i j*G i j+1≤g:=AN (Ez2 (f:=fun j=>G i j*G i j+1) (fun k _=>d i k) hj) (Ez2 (f:=fun i=>sm a fun j=>G i j*G i j+1) (fun k _=>An7 fun l _=>d k l) hi)
  have v:=Ad0 (G i j-1)
  have y:=Ad0 (G i j+1)
  have z:=Ad0 (G i j)
  constructor<;>grind
 have hgn:0≤g:=An7 fun i _=>An7 fun j _=>d i j
 have hcst:∀ (x:Rat) (m:Nat),(sm m fun _=>x)=(m:Rat)*x:=fun x m=>by
  induction m with
  | zero=>
   show (0:Rat)=((0:Nat):Rat)*x
   have o:((0:Nat):Rat)=0:=rfl
   rw [o,AG]
  | succ m ih=>
   unfold sm
   rw [ih,AH m 1]
   have h:((1:Nat):Rat)=1:=rfl
   rw [h];grind
 refine ⟨2*((a:Rat)*g),?_,fun c=>?_⟩
 · have:(0:Rat)≤(a:Rat):=(AS (a:=0) (b:=a)).2 (by omega)
   have:=AB this hgn
   grind
 · have r:(sm a fun i=>sm a fun j=>c i*G i j*c j)≤sm a fun i=>sm a fun j=>g*(c i*c i+c j*c j):=Dv4 fun i hi=>Dv4 fun j hj=>Fi1 _ _ _ _ (hg i j hi hj).1 (hg i j hi hj).2
   refine AN r ?_
   have t:(sm a fun i=>sm a fun j=>g*(c i*c i+c j*c j))=2*((a:Rat)*g)*sm a fun i=>c i*c i:=by
    have u:∀ i,(sm a fun j=>g*(c i*c i+c j*c j))=g*((a:Rat)*(c i*c i))+g*sm a fun j=>c j*c j:=fun i=>by
     rw [Ab9,Ai2,hcst];grind
    rw [Aa2 fun i _=>u i,Ai2,hcst,Ab9,Ab9];grind
   rw [t];exact AT
theorem Gr5 {n b a:Nat} {A:Nat→Nat→Rat} (h:Sig n A b a):∃ x:Rat,0<x∧Up n A x a:=by
 obtain ⟨W,d,hd,_,ha⟩:=h
 let pos:=(List.range n).filter fun i=>decide (0<d i)
 have hlen:pos.length=a:=ha
 have hpos:∀ i,i<a→∃ p,pos[i]?=some p∧p<n∧0<d p:=fun i hi=>by
  have:i<pos.length:=by rw [hlen];exact hi
  have hm:=List.mem_filter.1 (List.getElem_mem this)
  exact ⟨pos[i],AQ this,List.mem_range.1 hm.1,of_decide_eq_true hm.2⟩
 have hnd:pos.Pairwise (· ≠ ·):=List.Pairwise.filter _ List.nodup_range
 let q:Nat→Nat:=fun i=>pos.getD i 0
 have hq:∀ i,i<a→q i<n∧0<d (q i):=fun i hi=>by
  obtain ⟨p,f,l⟩:=hpos i hi
  have:q i=p:=by show pos.getD i 0=p;rw [AK,f];rfl
  rw [this];exact l
 have hinj:∀ i j,i<a→j<a→q i=q j→i=j:=fun i j hi hj he=>by
  have f:i<pos.length:=by rw [hlen];exact hi
  have l:j<pos.length:=by rw [hlen];exact hj
  have he:pos.getD i 0=pos.getD j 0:=he
  rw [AK,AK,AQ f,AQ l] at he
  have he:pos[i]=pos[j]:=he
  have hw:=List.pairwise_iff_getElem.1 hnd
  rcases Nat.lt_trichotomy i j with g | g | g
  · exact absurd he (hw i j f l g)
  · exact g
  · exact absurd he.symm (hw j i l f g)
 obtain ⟨m,o,hm⟩:=Cu8 (pos.map d) fun x hx=>by
  obtain ⟨p,hp,rfl⟩:=List.mem_map.1 hx
  exact of_decide_eq_true (List.mem_filter.1 hp).2
 have hmq:∀ i,i<a→m≤d (q i):=fun i hi=>by
  obtain ⟨p,f,_⟩:=hpos i hi
  have:q i=p:=by show pos.getD i 0=p;rw [AK,f];rfl
  rw [this]
  exact hm _ (List.mem_map.2 ⟨p,List.mem_of_getElem? f,rfl⟩)
 obtain ⟨K,hK0,hK⟩:=Gj3 (a:=a) (G:=fun i j=>sm n fun k=>W (q i) k*W (q j) k)
 have hK1:(0:Rat)<K+1:=by grind
 have hi:(K+1)*(K+1)⁻¹=1:=AF _ (by grind)
 have hip:0<(K+1)⁻¹:=Rat.inv_pos.2 hK1
 refine ⟨m*(K+1)⁻¹,AC o hip,fun i=>W (q i),fun c ⟨t,u,y⟩=>?_⟩
 have z:bil n A (lc a c fun i=>W (q i)) (lc a c fun i=>W (q i))=sm a fun i=>d (q i)*(c i*c i):=by
  rw [Fo9]
  refine Aa2 fun i hi=>?_
  rw [Fw7,Am0 hi fun j hj hne=>?_]
  · rw [hd.is _ _ (hq i hi).1 (hq i hi).1,if_pos rfl];grind
  · rw [hd.is _ _ (hq i hi).1 (hq j hj).1,if_neg (fun e=>hne (hinj i j hi hj e).symm)];grind
 have e2:(sm n fun k=>lc a c (fun i=>W (q i)) k*lc a c (fun i=>W (q i)) k)=sm a fun i=>sm a fun j=>c i*(sm n fun k=>W (q i) k*W (q j) k)*c j:=by
  unfold lc
  have r:(sm n fun k=>(sm a fun i=>c i*W (q i) k)*sm a fun i=>c i*W (q i) k)=sm n fun k=>sm a fun i=>sm a fun j=>(W (q i) k*W (q j) k)*(c i*c j):=Aa2 fun k _=>by
   rw [← An0]
   refine Aa2 fun i _=>?_
   rw [← Ab9]
   exact Aa2 fun j _=>by grind
  rw [r,Ae9]
  refine Aa2 fun i _=>?_
  rw [Ae9]
  refine Aa2 fun j _=>?_
  rw [An0];grind
 have e3:∀ v:Nat→Rat,bil n (Ap7 A (m*(K+1)⁻¹)) v v=bil n A v v-m*(K+1)⁻¹*sm n fun k=>v k*v k:=fun v=>by
  unfold bil Ap7
  have r:(sm n fun i=>sm n fun j=>v i*(A i j-if i=j then m*(K+1)⁻¹ else 0)*v j)=sm n fun i=>(sm n fun j=>v i*A i j*v j) + -1*(m*(K+1)⁻¹*(v i*v i)):=Aa2 fun i hi=>by
   have a2:(sm n fun j=>v i*(A i j-if i=j then m*(K+1)⁻¹ else 0)*v j)=sm n fun j=>v i*A i j*v j + -1*(v i*(if i=j then m*(K+1)⁻¹ else 0)*v j):=Aa2 fun j _=>by grind
   rw [a2,Ai2,Ab9]
   congr 2
   rw [Am0 hi fun j _ hne=>by rw [if_neg (by omega)];grind,if_pos rfl];grind
  rw [r,Ai2,Ab9,Ab9];grind
 rw [e3,z,e2]
 have hk:=hK c
 have hS:0<sm a fun i=>c i*c i:=Fx6 (i:=t) (fun k _=>Ad0 _) u (Fx5 y)
 have hle:m*(sm a fun i=>c i*c i)≤sm a fun i=>d (q i)*(c i*c i):=by
  rw [← Ab9]
  exact Dv4 fun i hi=>by
   have:=AA (hmq i hi) (Ad0 (c i))
   grind
 generalize (sm a fun i=>c i*c i)=S at *
 generalize (sm a fun i=>sm a fun j=>c i*(sm n fun k=>W (q i) k*W (q j) k)*c j)=F at *
 have hw:0≤m*(K+1)⁻¹:=AE (AC o hip)
 have f1:=AA hk hw
 have f2:m*(K+1)⁻¹*(K*S)=m*S-m*(K+1)⁻¹*S:=by
  have:m*(K+1)⁻¹*(K*S)+m*(K+1)⁻¹*S=m*S*((K+1)*(K+1)⁻¹):=by grind
  rw [hi] at this
  grind
 have f3:0<m*(K+1)⁻¹*S:=AC (AC o hip) hS
 grind
end Go.Ine
/-
  Products of factors 1 - d s: changes of sign, with room; what is near stays near. No condition.
-/
namespace Go.Ine
def Dx2 (d:Rat) (q:Nat→Rat):Nat→Rat
 | 0=>q 0
 | k+1=>q (k+1)-d*q k
def pr:List Rat→Nat→Rat
 | []=>un
 | d::l=>Dx2 d (pr l)
theorem Ff0 (d e:Rat) (q:Nat→Rat):Dx2 d (Dx2 e q)=Dx2 e (Dx2 d q):=by
 funext k
 match k with
 | 0=>rfl
 | 1=>
  show q 1-e*q 0-d*q 0=q 1-d*q 0-e*q 0
  grind
 | k+2=>
  show q (k+2)-e*q (k+1)-d*(q (k+1)-e*q k)=q (k+2)-d*q (k+1)-e*(q (k+1)-d*q k)
  grind
theorem Fm2 {l l':List Rat} (h:l.Perm l'):pr l=pr l':=by
 induction h with
 | nil=>rfl
 | cons x _ ih=>show Dx2 x (pr _)=Dx2 x (pr _);rw [ih]
 | swap x y l=>exact Ff0 y x (pr l)
 | trans _ _ a b=>exact a.trans b
theorem Eg5:∀ l:List Rat,pr l 0=1
 | []=>rfl
 | d::l=>Eg5 l
theorem Ek9:∀ (l:List Rat) (k:Nat),l.length<k→pr l k=0
 | [],k+1,_=>rfl
 | d::l,k+1,h=>by
   have h:l.length<k:=by simpa using h
   show pr l (k+1)-d*pr l k=0
   rw [Ek9 l k h,Ek9 l (k+1) (by omega)];grind
theorem Ej3:∀ (l:List Rat),(∀ x∈l,x=0)→pr l=un
 | [],_=>rfl
 | d::l,h=>by
   show Dx2 d (pr l)=un
   rw [h d (AJ ..),Ej3 l fun x hx=>h x (AO _ hx)]
   funext k
   cases k with
   | zero=>rfl
   | succ k=>show un (k+1)-0*un k=un (k+1);grind
theorem Ei4:∀ (l z:List Rat),(∀ x∈z,x=0)→∀ k,l.length<k→pr (l++z) k=0
 | [],z,h,k+1,_=>by
   show pr z (k+1)=0
   rw [Ej3 z h];rfl
 | d::l,z,h,k+1,hk=>by
   have hk:l.length<k:=by simpa using hk
   show pr (l++z) (k+1)-d*pr (l++z) k=0
   rw [Ei4 l z h k hk,Ei4 l z h (k+1) (by omega)];grind
def dl (D:Nat→Nat→Rat):Nat→List Rat
 | 0=>[]
 | n+1=>D n n::dl D n
theorem Fe8 {D:Nat→Nat→Rat}:∀ {n:Nat},(∀ i j,i<n→j<n→i≠j→D i j=0)→ber D n=pr (dl D n)
 | 0,_=>rfl
 | n+1,h=>by
   have ih:=Fe8 (D:=D) (n:=n) fun i j hi hj=>h i j (by omega) (by omega)
   funext k
   cases k with
   | zero=>rw [Dj8,Eg5]
   | succ k=>
     rw [Fq4 fun i hi=>h i n (by omega) (by omega) (by omega),ih]
     show _=pr (dl D n) (k+1)-D n n*pr (dl D n) k
     grind
theorem Cp1 (D:Nat→Nat→Rat) (p:Rat→Bool):∀ n,((dl D n).filter p).length=((List.range n).filter fun i=>p (D i i)).length
 | 0=>rfl
 | n+1=>by
   rw [List.range_succ,List.filter_append,AY,← Cp1 D p n]
   show ((D n n::dl D n).filter p).length=_
   rw [AI,AI,List.filter_nil]
   cases p (D n n) with
   | true=>simp
   | false=>simp
theorem Aq8 (D:Nat→Nat→Rat):∀ n,(dl D n).length=n
 | 0=>rfl
 | n+1=>by show (dl D n).length+1=n+1;rw [Aq8 D n]
theorem Fz4 {D:Nat→Nat→Rat}:∀ {n:Nat} {x:Rat},x∈dl D n→∃ i,i<n∧x=D i i
 | n+1,x,h=>by
   rcases List.mem_cons.1 h with rfl | h
   · exact ⟨n,by omega,rfl⟩
   · obtain ⟨i,hi,e⟩:=Fz4 h
     exact ⟨i,by omega,e⟩
def sq (i:Nat):Rat:=if i%2=0 then 1 else -1
theorem Cq7 (i:Nat):sq (i+1) = - sq i:=by
 unfold sq
 by_cases h:i%2=0
 · rw [if_pos h,if_neg (by omega)]
 · rw [if_neg h,if_pos (by omega)];grind
theorem Hb7 (i:Nat):sq i=1∨sq i = -1:=by
 unfold sq
 split
 · exact .inl rfl
 · exact .inr rfl
def rp (r:Rat):Nat→Rat
 | 0=>1
 | m+1=>r*rp r m
theorem Dx0 {r:Rat} (h:0<r):∀ m,0<rp r m
 | 0=>by unfold rp;grind
 | m+1=>AC h (Dx0 h m)
theorem Gf3 {r:Rat} (h:0<r) (d:r≤1):∀ m,rp r m≤1
 | 0=>AT
 | m+1=>by
   have a:=AA (Gf3 h d m) (show 0≤r by grind)
   unfold rp;grind
theorem Hd7 {R d s:Rat} {q:Nat→Rat} {r:Rat} (hR:1≤R) (hr:r*(2*R)=1) (k:0≤d) (hd:d≤R) {a:Nat} (ha:s*q a≤0):∀ (M L:Nat) (th:Rat),L+1≤M→0<th→th≤s*q (a+L+1) →
 ∃ j,a<j∧j≤a+L+1∧th*rp r M≤s*Dx2 d q j
 | 0,L,th,h,_,_=>by omega
 | M+1,L,th,h,l,v=>by
   have f:0<r:=by
    refine Rat.not_le.1 fun c=>?_
    have:=AA c (show 0≤2*R by grind)
    grind
   have o:r*2≤1:=by
    have:=AA hR (show 0≤r*2 by grind)
    grind
   have hrp:=Dx0 f M
   have hrl:=Gf3 f (by grind) M
   have ef:s*Dx2 d q (a+L+1)=s*q (a+L+1)-d*(s*q (a+L)):=by
    show s*(q (a+L+1)-d*q (a+L))=_
    grind
   by_cases c:th≤2*(s*Dx2 d q (a+L+1))
   · refine ⟨a+L+1,by omega,by omega,?_⟩
     show th*(r*rp r M)≤_
     have x:=AA hrl (show 0≤th*r by exact AB (by grind) (by grind))
     have y:=AA o (show 0≤th by grind)
     grind
   · have z:th<2*(d*(s*q (a+L))):=by grind
     have hy:0<s*q (a+L):=by
      refine Rat.not_le.1 fun g=>?_
      have:=AA g k
      grind
     have c3:th<2*(R*(s*q (a+L))):=by
      have:=AA hd (show 0≤s*q (a+L) by grind)
      grind
     have i:th*r≤s*q (a+L):=by
      have:=AA (show th≤2*(R*(s*q (a+L))) by grind) (show 0≤r by grind)
      have e:r*(2*(R*(s*q (a+L))))=(r*(2*R))*(s*q (a+L)):=by grind
      rw [e,hr] at this
      grind
     cases L with
     | zero=>
       have i:th*r≤s*q a:=i
       have:=AC l f
       grind
     | succ L=>
       obtain ⟨j,t,j2,u⟩:=Hd7 hR hr k hd ha M L (th*r) (by omega) (AC l f) i
       refine ⟨j,t,by omega,?_⟩
       show th*(r*rp r M)≤_
       rw [← AP];exact u
theorem Hd4 {d s de:Rat} {q:Nat→Rat} (hde:0<de) (i:de≤1) (hd:de≤d):∀ (M L a:Nat) (th:Rat),L+1≤M→0<th→s*q a ≤ - th→0≤s*q (a+L+1) →
 ∃ j,a<j∧j≤a+L+1∧th*rp (de*(1/2)) M≤s*Dx2 d q j
 | 0,L,a,th,h,_,_,_=>by omega
 | M+1,L,a,th,h,k,l,f=>by
   have g:0<de*(1/2):=by grind
   have hrp:=Dx0 g M
   have hrl:=Gf3 g (by grind) M
   have ef:s*Dx2 d q (a+1)=s*q (a+1)-d*(s*q a):=by
    show s*(q (a+1)-d*q a)=_
    grind
   have hdt:de*th≤d*th:=by
    have:=AA hd (show 0≤th by grind)
    grind
   have hdq:d*(s*q a) ≤ - (d*th):=by
    have:=AA l (show 0≤d by grind)
    grind
   by_cases c:d*th*(1/2)≤s*Dx2 d q (a+1)
   · refine ⟨a+1,by omega,by omega,?_⟩
     show th*(de*(1/2)*rp (de*(1/2)) M)≤_
     have t:=AA hrl (show 0≤th*(de*(1/2)) by exact AB (by grind) (by grind))
     grind
   · have o:s*q (a+1) ≤ - (th*(de*(1/2))):=by grind
     have hp:=AC k g
     cases L with
     | zero=>
       have f:0≤s*q (a+1):=f
       grind
     | succ L=>
       obtain ⟨j,u,v,r⟩:=Hd4 (d:=d) (s:=s) (q:=q) hde i hd M L (a+1) (th*(de*(1/2))) (by omega) hp o (by
        rw [show a+1+L+1=a+(L+1)+1 by omega];exact f)
       refine ⟨j,by omega,by omega,?_⟩
       show th*(de*(1/2)*rp (de*(1/2)) M)≤_
       rw [← AP];exact r
def Alt (v N:Nat) (c:Nat→Rat) (h:Rat):Prop:=∃ ix:Nat→Nat,ix 0=0∧(∀ i,i<v→ix i<ix (i+1))∧ix v≤N∧∀ i,i≤v→h≤sq i*c (ix i)
theorem Ft9 {P:Nat→Nat→Prop} {n:Nat} (h:∀ i,i<n→∃ j,P i j):∃ f:Nat→Nat,∀ i,i<n→P i (f i):=by
 classical
 refine ⟨fun i=>if h:∃ j,P i j then Classical.choose h else 0,fun i hi=>?_⟩
 have:=h i hi
 show P i (if h:∃ j,P i j then Classical.choose h else 0)
 rw [dif_pos this]
 exact Classical.choose_spec this
theorem Dq1 {ix:Nat→Nat} {v:Nat} (h:∀ i,i<v→ix i<ix (i+1)):∀ {i j:Nat},i≤j→j≤v→ix i≤ix j
 | i,0,d,_=>by
  obtain rfl:i=0:=by omega
  exact AD _
 | i,j+1,d,f=>by
   by_cases c:i=j+1
   · rw [c];exact AD _
   · have:=Dq1 h (i:=i) (j:=j) (by omega) (by omega)
     have:=h j (by omega)
     omega
theorem Fr2 {R de h:Rat} {v N:Nat} (hR:1≤R) (hde:0<de) (z:de≤1) (hh:0<h):∃ h':Rat,0<h'∧∀ (q:Nat→Rat) (d:Rat),de≤d→d≤R→(∀ k,N<k→q k=0)→Alt v N q h→Alt (v+1) (N+1) (Dx2 d q) h':=by
 have hri:(2*R)⁻¹*(2*R)=1:=AX _ (by grind)
 have aa:0<(2*R)⁻¹:=Rat.inv_pos.2 (by grind)
 generalize (2*R)⁻¹=r at *
 have k1:0<h*rp r (N+1):=AC hh (Dx0 aa _)
 have k2:0<h*rp (de*(1/2)) (N+1):=AC hh (Dx0 (by grind) _)
 obtain ⟨h',p0,p1,p2,p3⟩:∃ h':Rat,0<h'∧h'≤h∧h'≤h*rp r (N+1)∧h'≤h*rp (de*(1/2)) (N+1):=by
  obtain ⟨m,m0,hm⟩:=Cu8 [h,h*rp r (N+1),h*rp (de*(1/2)) (N+1)] fun x hx=>by
   simp only [List.mem_cons,List.not_mem_nil,or_false] at hx
   rcases hx with rfl | rfl | rfl
   · exact hh
   · exact k1
   · exact k2
  exact ⟨m,m0,hm _ (by simp),hm _ (by simp),hm _ (by simp)⟩
 refine ⟨h',p0,fun q d ab ac hq ⟨ix,i0,l,u,o⟩=>?_⟩
 have one:∀ i,i<v+1→∃ j,ix i<j∧(j≤if i<v then ix (i+1) else N+1)∧h'≤sq (i+1)*Dx2 d q j:=fun i hi=>by
  have hle:ix i≤N:=AW (Dq1 l (show i≤v by omega) (AD _)) u
  have hneg:sq (i+1)*q (ix i) ≤ - h:=by
   have:=o i (by omega)
   rw [Cq7];grind
  by_cases c:i<v
  · have hlt:=l i c
    have ad:ix (i+1)≤N:=AW (Dq1 l (show i+1≤v by omega) (AD _)) u
    obtain ⟨L,hL⟩:∃ L,ix (i+1)=ix i+L+1:=⟨ix (i+1)-ix i-1,by omega⟩
    have y:=o (i+1) (by omega)
    rw [hL] at y
    obtain ⟨j,t,j2,j3⟩:=Hd7 (d:=d) (s:=sq (i+1)) (q:=q) (r:=r) hR hri (by grind) ac (a:=ix i) (by grind) (N+1) L h (by omega) hh y
    exact ⟨j,t,by rw [if_pos c];omega,by grind⟩
  · obtain ⟨L,hL⟩:∃ L,N+1=ix i+L+1:=⟨N-ix i,by omega⟩
    obtain ⟨j,t,j2,j3⟩:=Hd4 (d:=d) (s:=sq (i+1)) (q:=q) hde z ab (N+1) L (ix i) h (by omega) hh hneg (by
     rw [← hL,hq (N+1) (by omega)];grind)
    exact ⟨j,t,by rw [if_neg c];omega,by grind⟩
 obtain ⟨f,hf⟩:=Ft9 one
 refine ⟨fun i=>if i=0 then 0 else f (i-1),rfl,fun i hi=>?_,?_,fun i hi=>?_⟩
 · show (if i=0 then 0 else f (i-1))<(if i+1=0 then 0 else f (i+1-1))
   rw [if_neg (show ¬ i+1=0 by omega),BF]
   have h1:=hf i hi
   by_cases c:i=0
   · rw [if_pos c];omega
   · rw [if_neg c]
     have g:=(hf (i-1) (by omega)).2.1
     rw [if_pos (by omega),show i-1+1=i by omega] at g
     omega
 · show (if v+1=0 then 0 else f (v+1-1))≤N+1
   rw [if_neg (by omega),BF]
   have g:=(hf v (by omega)).2.1
   rw [if_neg (by omega)] at g
   exact g
 · show h'≤sq i*Dx2 d q (if i=0 then 0 else f (i-1))
   by_cases c:i=0
   · subst c
     rw [if_pos rfl]
     have:=o 0 (by omega)
     rw [i0] at this
     exact AN p1 this
   · rw [if_neg c]
     have g:=(hf (i-1) (by omega)).2.2
     rw [show i-1+1=i by omega] at g
     exact g
theorem Em5 {R de:Rat} (hR:1≤R) (hde:0<de) (o:de≤1) (r:Nat):∀ p:Nat,∃ h:Rat,0<h∧∀ l rest:List Rat,l.length=p→rest.length=r→(∀ x∈l,de≤x∧x≤R)→Alt p (p+r) (pr (l++rest)) h
 | 0=>⟨1,by grind,fun l rest f t _=>by
   obtain rfl:l = []:=List.eq_nil_of_length_eq_zero f
   refine ⟨fun _=>0,rfl,fun i h=>by omega,AU _,fun i hi=>?_⟩
   obtain rfl:i=0:=by omega
   show 1≤sq 0*pr rest 0
   rw [Eg5]
   show (1:Rat)≤1*1
   grind⟩
 | p+1=>by
   obtain ⟨h,u,hh⟩:=Em5 hR hde o r p
   obtain ⟨h',y,g⟩:=Fr2 (v:=p) (N:=p+r) hR hde o u
   refine ⟨h',y,fun l rest f t j=>?_⟩
   match l,f with
   | d::l,f=>
     have f:l.length=p:=by simpa using f
     have:=g (pr (l++rest)) d (j d (AJ ..)).1 (j d (AJ ..)).2 (fun k hk=>Ek9 _ k (by rw [AY];omega)) (hh l rest f t fun x hx=>j x (AO _ hx))
     rw [show p+r+1=p+1+r by omega] at this
     exact this
end Go.Ine
/-
  Characteristic polynomials of symmetric matrices: as many changes of sign as there are signs above 0; nought beyond the rank. No condition.
-/
namespace Go.Ine
def eM (m:Nat):Rat:=(((m+1:Nat):Rat))⁻¹
theorem Bd8 (m:Nat):0<eM m:=Rat.inv_pos.2 (Cn3 m)
theorem Gu3 (m:Nat):((m+1:Nat):Rat)*eM m=1:=AF _ (by have:=Cn3 m;grind)
theorem Dl0 {x:Rat} (h:0<x):∃ m,eM m≤x:=by
 obtain ⟨N,hN,hx⟩:=Fa4 x⁻¹
 refine ⟨N,?_⟩
 have i:x⁻¹*x=1:=AX _ (by grind)
 have d:=Gu3 N
 have j:=Bd8 N
 have hc:((N+1:Nat):Rat)=(N:Rat)+1:=AH N 1
 rw [hc] at d
 have k:=AA hx (show 0≤x by grind)
 have f:1≤x*((N:Rat)+1):=by grind
 have g:=AA f (show 0≤eM N by grind)
 have e:eM N*(x*((N:Rat)+1))=x*(((N:Rat)+1)*eM N):=by grind
 rw [e,d] at g
 grind
abbrev Bx (x K:Rat):Prop := - K≤x∧x≤K
theorem Bx.mul {x y a b:Rat} (h:Bx x a) (k:Bx y b):Bx (x*y) (a*b):=by
 have d:=AB (show 0≤a-x by grind) (show 0≤b+y by grind)
 have f:=AB (show 0≤a+x by grind) (show 0≤b-y by grind)
 have g:=AB (show 0≤a-x by grind) (show 0≤b-y by grind)
 have i:=AB (show 0≤a+x by grind) (show 0≤b+y by grind)
 constructor<;>grind
def Nr (f g:Nat→Rat):Prop:=∃ K,0≤K∧∀ m,Bx (f m) K∧Bx (g m) K∧Bx (f m-g m) (K*eM m)
theorem Fz5 {x y a b e:Rat} (h:Bx x (a*e)) (k:Bx y (b*e)) (z:Rat) (hz:z=x+y):Bx z ((a+b)*e):=by
 rw [hz]
 constructor<;>grind
theorem Nr.add {f g f' g':Nat→Rat} (h:Nr f g) (k:Nr f' g'):Nr (fun m=>f m+f' m) fun m=>g m+g' m:=by
 obtain ⟨K,j,hK⟩:=h
 obtain ⟨L,l0,hL⟩:=k
 refine ⟨K+L,by grind,fun m=>?_⟩
 obtain ⟨l,o,d⟩:=hK m
 obtain ⟨r,t,i⟩:=hL m
 exact ⟨by constructor<;>grind,by constructor<;>grind,Fz5 d i _ (by grind)⟩
theorem Nr.mul {f g f' g':Nat→Rat} (h:Nr f g) (k:Nr f' g'):Nr (fun m=>f m*f' m) fun m=>g m*g' m:=by
 obtain ⟨K,o,hK⟩:=h
 obtain ⟨L,l0,hL⟩:=k
 have hKL:=AB o l0
 refine ⟨K*L+K*L,by grind,fun m=>?_⟩
 obtain ⟨r,d,t⟩:=hK m
 obtain ⟨i,u,v⟩:=hL m
 have z:=r.mul i
 have c2:=d.mul u
 have j:=t.mul i
 have l:=d.mul v
 refine ⟨by constructor<;>grind,by constructor<;>grind,?_⟩
 have x:K*eM m*L=K*L*eM m:=by grind
 have y:K*(L*eM m)=K*L*eM m:=by grind
 rw [x] at j
 rw [y] at l
 exact Fz5 j l _ (by grind)
theorem Nr.const (c:Rat):Nr (fun _=>c) fun _=>c:=by
 have:∃ K:Rat,0≤K∧Bx c K:=by
  rcases AR (a:=0) (b:=c) with h | h
  · exact ⟨c,h,by grind,by grind⟩
  · exact ⟨- c,by grind,by grind,by grind⟩
 obtain ⟨K,d,h⟩:=this
 refine ⟨K,d,fun m=>⟨h,h,?_⟩⟩
 have:=AB d (AE (Bd8 m))
 constructor<;>grind
theorem Nr.neg {f g:Nat→Rat} (h:Nr f g):Nr (fun m => - f m) fun m => - g m:=by
 obtain ⟨K,d,hK⟩:=h
 refine ⟨K,d,fun m=>?_⟩
 obtain ⟨i,j,k⟩:=hK m
 exact ⟨by constructor<;>grind,by constructor<;>grind,by constructor<;>grind⟩
theorem Nr.sm {f g:Nat→Nat→Rat}:∀ {n:Nat},(∀ k,k<n→Nr (fun m=>f m k) fun m=>g m k)→Nr (fun m=>Go.Ine.sm n (f m)) fun m=>Go.Ine.sm n (g m)
 | 0,_=>Nr.const 0
 | n+1,h=>(Nr.sm (n:=n) fun k hk=>h k (by omega)).add (h n (by omega))
section
variable {n:Nat} {D Y:Nat→Nat→Nat→Rat}
theorem Gt5 (h:∀ i j,i<n→j<n→Nr (fun m=>D m i j) fun m=>Y m i j) {q:Nat} (hq:q<n):∀ (r i:Nat),i<q→Nr (fun m=>wC (D m) q r i) fun m=>wC (Y m) q r i
 | 0,i,hi=>h i q (by omega) hq
 | r+1,i,hi=>Nr.sm (f:=fun m l=>D m i l*wC (D m) q r l) (g:=fun m l=>Y m i l*wC (Y m) q r l) fun l hl=>(h i l (by omega) (by omega)).mul (Gt5 h hq r l hl)
theorem Gz8 (h:∀ i j,i<n→j<n→Nr (fun m=>D m i j) fun m=>Y m i j) {q:Nat} (hq:q<n):∀ k,Nr (fun m=>bS (D m) q k) fun m=>bS (Y m) q k
 | 0=>Nr.const 1
 | 1=>(h q q hq hq).neg
 | k+2=>(Nr.sm (f:=fun m i=>D m q i*wC (D m) q k i) (g:=fun m i=>Y m q i*wC (Y m) q k i) fun i hi=>(h q i hq (by omega)).mul (Gt5 h hq k i hi)).neg
theorem En6 (h:∀ i j,i<n→j<n→Nr (fun m=>D m i j) fun m=>Y m i j):∀ (q k:Nat),q≤n→Nr (fun m=>ber (D m) q k) fun m=>ber (Y m) q k
 | 0,k,_=>Nr.const (un k)
 | q+1,k,hq=>Nr.sm (f:=fun m i=>ber (D m) q i*bS (D m) q (k-i)) (g:=fun m i=>ber (Y m) q i*bS (Y m) q (k-i)) fun i hi=>(En6 h q i (by omega)).mul (Gz8 h (by omega) (k-i))
end
theorem Ga7 {f g:Nat→Nat→Rat}:∀ N:Nat,(∀ k,k≤N→Nr (fun m=>f m k) fun m=>g m k)→∃ K:Rat,0≤K∧∀ m k,k≤N→Bx (f m k-g m k) (K*eM m)
 | 0,h=>by
   obtain ⟨K,d,hK⟩:=h 0 (AD _)
   exact ⟨K,d,fun m k hk=>by
    obtain rfl:k=0:=by omega
    exact (hK m).2.2⟩
 | N+1,h=>by
   obtain ⟨K,d,hK⟩:=h (N+1) (AD _)
   obtain ⟨L,l0,hL⟩:=Ga7 N fun k hk=>h k (by omega)
   refine ⟨K+L,by grind,fun m k hk=>?_⟩
   have i:=AB d (AE (Bd8 m))
   have j:=AB l0 (AE (Bd8 m))
   by_cases c:k=N+1
   · subst c
     have:=(hK m).2.2
     constructor<;>grind
   · have:=hL m k (by omega)
     constructor<;>grind
section
variable {n:Nat} {Y:Nat→Nat→Rat} {e:Rat}
def diag (Y:Nat→Nat→Rat) (i j:Nat):Rat:=if i=j then Y i j else 0
def Gv5 (Y:Nat→Nat→Rat) (i j:Nat):Rat:=if i=j then 0 else Y i j
theorem Ey0 {G:Nat→Nat→Rat} (h:∀ i j,i<n→j<n→Bx (G i j) e) (v:Nat→Rat):(sm n fun i=>sm n fun j=>v i*G i j*v j)≤2*((n:Rat)*e)*sm n fun k=>v k*v k:=by
 have d:(sm n fun i=>sm n fun j=>v i*G i j*v j)≤sm n fun i=>sm n fun j=>e*(v i*v i+v j*v j):=Dv4 fun i hi=>Dv4 fun j hj=>Fi1 _ _ _ _ (h i j hi hj).1 (h i j hi hj).2
 refine AN d ?_
 have hcst:∀ (x:Rat) (m:Nat),(sm m fun _=>x)=(m:Rat)*x:=fun x m=>by
  induction m with
  | zero=>
   show (0:Rat)=((0:Nat):Rat)*x
   have f:((0:Nat):Rat)=0:=rfl
   rw [f,AG]
  | succ m ih=>
   unfold sm
   rw [ih,AH m 1]
   have g:((1:Nat):Rat)=1:=rfl
   rw [g];grind
 have l:(sm n fun i=>sm n fun j=>e*(v i*v i+v j*v j))=2*((n:Rat)*e)*sm n fun i=>v i*v i:=by
  have o:∀ i,(sm n fun j=>e*(v i*v i+v j*v j))=e*((n:Rat)*(v i*v i))+e*sm n fun j=>v j*v j:=fun i=>by
   rw [Ab9,Ai2,hcst];grind
  rw [Aa2 fun i _=>o i,Ai2,hcst,Ab9,Ab9];grind
 rw [l];exact AT
theorem Co8 (v:Nat→Rat):bil n Y v v=bil n (diag Y) v v+sm n fun i=>sm n fun j=>v i*Gv5 Y i j*v j:=by
 unfold bil diag Gv5
 rw [← Ai2]
 refine Aa2 fun i _=>?_
 rw [← Ai2]
 refine Aa2 fun j _=>?_
 split<;>grind
theorem Bx6 (B:Nat→Nat→Rat) (x:Rat) (v:Nat→Rat):bil n (Ap7 B x) v v=bil n B v v-x*sm n fun k=>v k*v k:=by
 unfold bil Ap7
 have d:(sm n fun i=>sm n fun j=>v i*(B i j-if i=j then x else 0)*v j)=sm n fun i=>(sm n fun j=>v i*B i j*v j) + -1*(x*(v i*v i)):=Aa2 fun i hi=>by
  have f:(sm n fun j=>v i*(B i j-if i=j then x else 0)*v j)=sm n fun j=>v i*B i j*v j + -1*(v i*(if i=j then x else 0)*v j):=Aa2 fun j _=>by grind
  rw [f,Ai2,Ab9]
  congr 2
  rw [Am0 hi fun j _ hne=>by rw [if_neg (by omega)];grind,if_pos rfl];grind
 rw [d,Ai2,Ab9,Ab9];grind
theorem Ff4 (B:Nat→Nat→Rat) (v:Nat→Rat):bil n (fun i j => - B i j) v v = - bil n B v v:=by
 unfold bil
 have d:(sm n fun i=>sm n fun j=>v i * - B i j*v j)=sm n fun i => -1*sm n fun j=>v i*B i j*v j:=Aa2 fun i _=>by
  rw [← Ab9]
  exact Aa2 fun j _=>by grind
 rw [d,Ab9];grind
theorem Ec8 (d:0≤e) (h:∀ i j,i<n→j<n→i≠j→Bx (Y i j) e):∀ i j,i<n→j<n→Bx (Gv5 Y i j) e:=fun i j hi hj=>by
 unfold Gv5
 split
 · constructor<;>grind
 · exact h i j hi hj (by assumption)
theorem Gn9 {G:Nat→Nat→Rat} (h:∀ i j,i<n→j<n→Bx (G i j) e) (v:Nat→Rat) : - (2*((n:Rat)*e)*sm n fun k=>v k*v k)≤sm n fun i=>sm n fun j=>v i*G i j*v j:=by
 have:=Ey0 (G:=fun i j => - G i j) (e:=e) (fun i j hi hj=>by have:=h i j hi hj;constructor<;>grind) v
 have d:(sm n fun i=>sm n fun j=>v i * - G i j*v j) = -1*sm n fun i=>sm n fun j=>v i*G i j*v j:=by
  rw [← Ab9]
  refine Aa2 fun i _=>?_
  rw [← Ab9]
  exact Aa2 fun j _=>by grind
 rw [d] at this
 grind
theorem Gd5 {x:Rat} {a:Nat} (d:0≤e) (h:∀ i j,i<n→j<n→i≠j→Bx (Y i j) e) (hu:Up n Y x a):a≤Dc0 n fun i=>Y i i-(x-2*((n:Rat)*e)):=by
 have hD:Up n (diag Y) (x-2*((n:Rat)*e)) a:=by
  obtain ⟨W,hW⟩:=hu
  refine ⟨W,fun c hc=>?_⟩
  have:=hW c hc
  rw [Bx6,Co8] at this
  rw [Bx6]
  have l:=Ey0 (Ec8 d h) (lc a c W)
  grind
 have:=Gf1 (fun i j _ _ hne=>by unfold diag;rw [if_neg hne]) hD
 refine AW this (Nat.le_of_eq (Bq9 fun k _=>?_))
 unfold diag
 rw [if_pos rfl]
theorem Ea2 (x:Rat):Sig n (Ap7 (diag Y) x) (Db3 n fun i=>Y i i-x) (Dc0 n fun i=>Y i i-x):=by
 refine (Sig.diag n fun i=>Y i i-x).ext fun i j _ _=>?_
 unfold Ap7 diag
 by_cases c:i=j
 · subst c;rw [if_pos rfl,if_pos rfl,if_pos rfl]
 · rw [if_neg c,if_neg c,if_neg c];grind
theorem Ev7 {b a:Nat} (d:0≤e) (h:∀ i j,i<n→j<n→i≠j→Bx (Y i j) e) (hs:Sig n Y b a):(Dc0 n fun i=>Y i i-2*((n:Rat)*e))≤a:=by
 refine Sig.mono (Ea2 (Y:=Y) (2*((n:Rat)*e))).neg hs.neg fun v=>?_
 rw [Ff4,Ff4,Bx6,Co8 (Y:=Y)]
 have l:=Gn9 (Ec8 d h) v
 grind
theorem Eu5 {b a:Nat} (d:0≤e) (h:∀ i j,i<n→j<n→i≠j→Bx (Y i j) e) (hs:Sig n Y b a):(Db3 n fun i=>Y i i - - (2*((n:Rat)*e)))≤b:=by
 refine Sig.mono (Ea2 (Y:=Y) (- (2*((n:Rat)*e)))) hs fun v=>?_
 rw [Bx6,Co8 (Y:=Y)]
 have l:=Ey0 (Ec8 d h) v
 grind
end
theorem Cm8 {x e:Rat} (he:0≤e) (h:x*x≤e*e):Bx x e:=by
 have key:∀ y:Rat,y*y≤e*e→y≤e:=fun y hy=>by
  refine Rat.not_lt.1 fun c=>?_
  have d:=AB he (show 0≤y-e by grind)
  have f:=AC (show 0<y-e by grind) (show 0<y by grind)
  grind
 have a:=key x h
 have b:=key (- x) (by grind)
 constructor<;>grind
end Go.Ine
/-
  Characteristic polynomials of symmetric matrices: as many changes of sign as there are signs above 0; nought beyond the rank. No condition.
-/
namespace Go.Ine
theorem Cx2 {p q:Nat→Bool}:∀ (l:List Nat),(∀ i∈l,p i=true→q i=true)→(l.filter p).length≤(l.filter q).length
 | [],_=>AD _
 | x::l,h=>by
   have ih:=Cx2 l fun i hi=>h i (AO _ hi)
   have hx:=h x (AJ ..)
   rw [AI,AI]
   cases hp:p x with
   | true=>rw [hx hp,if_pos rfl,if_pos rfl];simpa using ih
   | false=>
     rw [if_neg (by decide)]
     split
     · simp;omega
     · exact ih
theorem Dt9 {p q r:Nat→Bool}:∀ (l:List Nat),(∀ i∈l,p i=true→q i=true∨r i=true)→(l.filter p).length≤(l.filter q).length+(l.filter r).length
 | [],_=>AD _
 | x::l,h=>by
   have ih:=Dt9 l fun i hi=>h i (AO _ hi)
   have hx:=h x (AJ ..)
   rw [AI,AI,AI]
   cases hp:p x with
   | true=>
     rw [if_pos rfl]
     rcases hx hp with g | g
     · rw [g,if_pos rfl]
       split<;>simp<;>omega
     · rw [g,if_pos (rfl:true=true)]
       split<;>simp<;>omega
   | false=>
     rw [if_neg (by decide)]
     split<;>split<;>simp<;>omega
def El0 (Y:Nat→Nat→Rat) (t:Rat) (i j:Nat):Rat:=if i=j then (if-t≤Y i i∧Y i i≤t then 0 else Y i i) else 0
theorem En8 {c K:Rat} (hK:0≤K) (h:∀ m,Bx (0-c) (K*eM m)):c=0:=by
 have key:∀ y:Rat,(∀ m,y≤K*eM m)→y≤0:=fun y hy=>by
  refine Rat.not_lt.1 fun hp=>?_
  have hK1:(0:Rat)<K+1:=by grind
  have hi:(K+1)*(K+1)⁻¹=1:=AF _ (by grind)
  have hip:0<(K+1)⁻¹:=Rat.inv_pos.2 hK1
  obtain ⟨m,hm⟩:=Dl0 (AC hp (AC hip (show (0:Rat)<1/2 by grind)))
  have f:=hy m
  have d:=AA hm (show 0≤K+1 by grind)
  have e:(K+1)*(y*((K+1)⁻¹*(1/2)))=y*(1/2)*((K+1)*(K+1)⁻¹):=by grind
  rw [e,hi] at d
  have:=Bd8 m
  grind
 have a:=key c fun m=>by have:=(h m).1;grind
 have b:=key (- c) fun m=>by have:=(h m).2;grind
 grind
theorem Ep1 {n b a:Nat} {A:Nat→Nat→Rat} (hs:∀ i j,A i j=A j i) (h:Sig n A b a) :
 (∃ ix:Nat→Nat,(∀ i,i<a→ix i<ix (i+1))∧ix a≤n∧∀ i,i≤a→0<sq i*ber A n (ix i))∧∀ k,a+b<k→ber A n k=0:=by
 obtain ⟨x,aa,hup⟩:=Gr5 h
 have han:a≤n:=by
  obtain ⟨W,d,_,_,rfl⟩:=h
  have:=List.length_filter_le (fun i=>decide (0<d i)) (List.range n)
  rw [List.length_range] at this
  exact this
 have hY:∀ m,∃ Y,Rel n A Y∧∀ i j,i<n→j<n→i≠j→Y i j*Y i j≤eM m*eM m:=fun m=>Fz0 (AC (Bd8 m) (Bd8 m)) hs
 obtain ⟨Y,hYm⟩:∃ Y:Nat→Nat→Nat→Rat,∀ m,Rel n A (Y m)∧∀ i j,i<n→j<n→i≠j→Y m i j*Y m i j≤eM m*eM m:=⟨fun m=>Classical.choose (hY m),fun m=>Classical.choose_spec (hY m)⟩
 clear hY
 have hoff:∀ m i j,i<n→j<n→i≠j→Bx (Y m i j) (eM m):=fun m i j hi hj hne=>Cm8 (AE (Bd8 m)) ((hYm m).2 i j hi hj hne)
 have hT0:0≤tr A n 2:=by
  rw [Ek4 hs]
  exact An7 fun i _=>An7 fun l _=>Ad0 _
 generalize hT:tr A n 2=T at *
 have hall:∀ m i j,i<n→j<n→Bx (Y m i j) (T+1):=fun m i j hi hj=>Cm8 (by grind) (by
  have u:=Fc9 (hYm m).1.sym hi hj
  rw [(hYm m).1.two,hT] at u
  have:=Ad0 T
  grind)
 have v:(0:Rat)≤(n:Rat):=(AS (a:=0) (b:=n)).2 (by omega)
 generalize hN:(n:Rat)=N at *
 let D:Nat→Nat→Nat→Rat:=fun m=>El0 (Y m) (2*(N*eM m))
 have hnr:∀ i j,i<n→j<n→Nr (fun m=>D m i j) fun m=>Y m i j:=fun i j hi hj=>by
  refine ⟨T+1+2*N+1,by grind,fun m=>?_⟩
  have t:=Bd8 m
  have t0:0≤N*eM m:=AB v (AE t)
  have y1:=hall m i j hi hj
  have y2:Bx (Y m i j) (T+1+2*N+1):=by constructor<;>grind
  have s0:0≤(T+1)*eM m:=AB (by grind) (AE t)
  have ex:(T+1+2*N+1)*eM m=(T+1)*eM m+2*(N*eM m)+eM m:=by grind
  rw [ex]
  show Bx (El0 (Y m) (2*(N*eM m)) i j) _∧_∧Bx (El0 (Y m) (2*(N*eM m)) i j-Y m i j) _
  unfold El0
  by_cases c:i=j
  · subst c
    rw [if_pos rfl]
    by_cases g : - (2*(N*eM m))≤Y m i i∧Y m i i≤2*(N*eM m)
    · rw [if_pos g]
      exact ⟨by constructor<;>grind,y2,by constructor<;>grind⟩
    · rw [if_neg g]
      exact ⟨y2,y2,by constructor<;>grind⟩
  · rw [if_neg c]
    have:=hoff m i j hi hj c
    exact ⟨by constructor<;>grind,y2,by constructor<;>grind⟩
 have hD:∀ m,ber (D m) n=pr (dl (D m) n):=fun m=>Fe8 fun i j _ _ hne=>by
  show El0 (Y m) (2*(N*eM m)) i j=0
  unfold El0;rw [if_neg hne]
 have hdd:∀ m i,D m i i=if-(2*(N*eM m))≤Y m i i∧Y m i i≤2*(N*eM m) then 0 else Y m i i:=fun m i=>by
  show El0 (Y m) (2*(N*eM m)) i i=_
  unfold El0;rw [if_pos rfl]
 have hsig:∀ m,Sig n (Y m) b a:=fun m=>by
  have h0:∀ Z:Nat→Nat→Rat,∀ i j,Ap7 Z 0 i j=Z i j:=fun Z i j=>by unfold Ap7;split<;>grind
  exact ((hYm m).1.sig 0 b a (h.ext fun i j _ _=>h0 A i j)).ext fun i j _ _=>(h0 (Y m) i j).symm
 refine ⟨?_,fun k hk=>?_⟩
 · obtain ⟨K,K0,hK⟩:=Ga7 (f:=fun m k=>ber (D m) n k) (g:=fun m k=>ber (Y m) n k) n fun k _=>En6 hnr n k (AD _)
   obtain ⟨de,hde,ab,hdex⟩:∃ de:Rat,0<de∧de≤1∧de≤x*(1/2):=by
    rcases AR (a:=(1:Rat)) (b:=x*(1/2)) with g | g
    · exact ⟨1,by grind,by grind,g⟩
    · exact ⟨x*(1/2),by grind,g,by grind⟩
   obtain ⟨η,η0,hη⟩:=Em5 (R:=T+2) (by grind) hde ab (n-a) a
   have hK1:(0:Rat)<K+1:=by grind
   have hKi:(K+1)*(K+1)⁻¹=1:=AF _ (by grind)
   have hKp:0<(K+1)⁻¹:=Rat.inv_pos.2 hK1
   have hN1:(0:Rat)<N+1:=by grind
   have hNi:(N+1)*(N+1)⁻¹=1:=AF _ (by grind)
   have hNp:0<(N+1)⁻¹:=Rat.inv_pos.2 hN1
   obtain ⟨m,ac,ad⟩:∃ m,eM m≤η*((K+1)⁻¹*(1/2))∧eM m≤x*((N+1)⁻¹*(1/8)):=by
    have q1:0<η*((K+1)⁻¹*(1/2)):=AC η0 (AC hKp (by grind))
    have q2:0<x*((N+1)⁻¹*(1/8)):=AC aa (AC hNp (by grind))
    rcases AR (a:=η*((K+1)⁻¹*(1/2))) (b:=x*((N+1)⁻¹*(1/8))) with g | g
    · obtain ⟨m,hm⟩:=Dl0 q1
      exact ⟨m,hm,AN hm g⟩
    · obtain ⟨m,hm⟩:=Dl0 q2
      exact ⟨m,AN hm g,hm⟩
   have t:=Bd8 m
   have hKe:K*eM m<η:=by
    have o:=AA ac (show 0≤K+1 by grind)
    have e:(K+1)*(η*((K+1)⁻¹*(1/2)))=η*(1/2)*((K+1)*(K+1)⁻¹):=by grind
    rw [e,hKi] at o
    grind
   have hte:2*(N*eM m)≤x*(1/4):=by
    have o:=AA ad (show 0≤N+1 by grind)
    have e:(N+1)*(x*((N+1)⁻¹*(1/8)))=x*(1/8)*((N+1)*(N+1)⁻¹):=by grind
    rw [e,hNi] at o
    grind
   have ae:0≤N*eM m:=AB v (AE t)
   have hcnt:=Gd5 (AE t) (hoff m) ((hYm m).1.up x a hup)
   rw [hN] at hcnt
   have hlen:a≤((dl (D m) n).filter fun y=>decide (de≤y)).length:=by
    rw [Cp1]
    refine AW hcnt ?_
    unfold Dc0
    refine Cx2 _ fun i _ hi=>?_
    have hi:=of_decide_eq_true hi
    refine decide_eq_true ?_
    rw [hdd,if_neg (by grind)]
    grind
   have hbig:∀ y∈(dl (D m) n).filter (fun y=>decide (de≤y)),de≤y∧y≤T+2:=fun y hy=>by
    obtain ⟨u,o⟩:=List.mem_filter.1 hy
    refine ⟨of_decide_eq_true o,?_⟩
    obtain ⟨i,hi,rfl⟩:=Fz4 u
    have:=hall m i i hi hi
    rw [hdd]
    split<;>grind
   have hperm:=BA (fun y=>decide (de≤y)) (dl (D m) n)
   generalize hpos:(dl (D m) n).filter (fun y=>decide (de≤y))=pos at *
   generalize (dl (D m) n).filter (fun y => !decide (de≤y))=rest at *
   have hperm2:(dl (D m) n).Perm (pos.take a++(pos.drop a++rest)):=by
    rw [← List.append_assoc,List.take_append_drop]
    exact hperm.symm
   have hl:=hperm2.length_eq
   rw [Aq8,AY] at hl
   have hta:(pos.take a).length=a:=by rw [List.length_take];omega
   have halt:=hη (pos.take a) (pos.drop a++rest) hta (by omega) fun y hy=>hbig y (List.mem_of_mem_take hy)
   rw [← Fm2 hperm2,← hD m] at halt
   obtain ⟨ix,i0,i1,i2,i3⟩:=halt
   refine ⟨ix,i1,by omega,fun i hi=>?_⟩
   have u:=i3 i hi
   have hle:ix i≤n:=by
    have:=Dq1 i1 hi (AD _)
    omega
   have o:=hK m (ix i) hle
   have o:Bx (ber (D m) n (ix i)-ber (Y m) n (ix i)) (K*eM m):=o
   rw [(hYm m).1.ber] at o
   rcases Hb7 i with g | g<;>rw [g] at u ⊢ <;> grind
 · obtain ⟨K,K0,hK⟩:=En6 hnr n k (AD _)
   refine En8 K0 fun m=>?_
   have o:=(hK m).2.2
   have o:Bx (ber (D m) n k-ber (Y m) n k) (K*eM m):=o
   rw [(hYm m).1.ber] at o
   have t:=Bd8 m
   have ae:0≤N*eM m:=AB v (AE t)
   have z:ber (D m) n k=0:=by
    have hperm:=BA (fun y:Rat=>decide (y≠0)) (dl (D m) n)
    rw [hD,← Fm2 hperm]
    refine Ei4 _ _ (fun y hy=>?_) k ?_
    · have:=(List.mem_filter.1 hy).2
      simpa using this
    · refine Nat.lt_of_le_of_lt ?_ hk
      rw [Cp1]
      have c1:=Ev7 (AE t) (hoff m) (hsig m)
      have c2:=Eu5 (AE t) (hoff m) (hsig m)
      rw [hN] at c1 c2
      refine AW (Dt9 (q:=fun i=>decide (0<Y m i i-2*(N*eM m))) (r:=fun i=>decide (Y m i i - - (2*(N*eM m))<0)) _ fun i _ hi=>?_) (Nat.add_le_add c1 c2)
      have hi:=of_decide_eq_true hi
      rw [hdd] at hi
      by_cases g : - (2*(N*eM m))≤Y m i i∧Y m i i≤2*(N*eM m)
      · rw [if_pos g] at hi;exact absurd rfl hi
      · by_cases g2:Y m i i≤2*(N*eM m)
        · exact .inr (decide_eq_true (by grind))
        · exact .inl (decide_eq_true (by grind))
   rw [z] at o
   exact o
end Go.Ine
/-
  Changes of sign along a sequence, both ways; the rule of Descartes for symmetric matrices. No condition.
-/
namespace Go.Ine
def Aw6 (s:Nat→Int):Nat→Int×Nat
 | 0=>(0,0)
 | k+1=>if s k=0 then Aw6 s k else (s k,if (Aw6 s k).1≠0∧s k≠(Aw6 s k).1 then (Aw6 s k).2+1 else (Aw6 s k).2)
def S3 (s:Nat→Int):Prop:=∀ k,s k = -1∨s k=0∨s k=1
def sqI (k:Nat):Int:=if k%2=0 then 1 else -1
theorem Fx7 (k:Nat):sqI k=1∨sqI k = -1:=by
 unfold sqI
 split
 · exact .inl rfl
 · exact .inr rfl
def Bc1 (s:Nat→Int) (k:Nat):Int:=sqI k*s k
theorem Ce6 {s:Nat→Int} {k:Nat}:Bc1 s k=0↔s k=0:=by
 unfold Bc1
 rcases Fx7 k with g | g<;>rw [g]<;>omega
def Gs2 (s:Nat→Int) (v N:Nat):Prop:=∃ (ix:Nat→Nat) (g:Int),(g=1∨g = -1)∧(∀ i,i<v→ix i<ix (i+1))∧ix v<N∧∀ i,i≤v→s (ix i)=g*sqI i
theorem Fw1 (i:Nat):sqI (i+1) = - sqI i:=by
 unfold sqI
 by_cases h:i%2=0
 · rw [if_pos h,if_neg (by omega)]
 · rw [if_neg h,if_pos (by omega)];rfl
theorem Ek8 {s:Nat→Int} {v N:Nat} (h:Gs2 s v N):v≤(Aw6 s N).2:=by
 obtain ⟨ix,g,hg,u,x,r⟩:=h
 have hgs:∀ i,g*sqI i=1∨g*sqI i = -1:=fun i=>by
  rcases hg with rfl | rfl<;>rcases Fx7 i with c | c<;>rw [c]<;>decide
 -- from place ix i on
 have on:∀ i,i≤v→∀ m,ix i<m→((∀ j,j<i→True)∧(i≤(Aw6 s (ix i+1)).2∧(Aw6 s (ix i+1)).1=g*sqI i))→i≤(Aw6 s m).2∧((Aw6 s m).1=g*sqI i∨i+1≤(Aw6 s m).2)∧(Aw6 s m).1≠0∧((Aw6 s m).1=1∨(Aw6 s m).1 = -1∨i+1≤(Aw6 s m).2):=by
  intro i hi m
  induction m with
  | zero=>intro h;omega
  | succ m ih=>
    intro hm hb
    by_cases c:m=ix i
    · subst c
      obtain ⟨_,y,l⟩:=hb
      have:=hgs i
      exact ⟨y,.inl l,by rw [l];omega,by rw [l];rcases this with q | q<;>rw [q]<;>simp⟩
    · obtain ⟨o,d,k,t⟩:=ih (by omega) hb
      unfold Aw6
      by_cases z:s m=0
      · rw [if_pos z];exact ⟨o,d,k,t⟩
      · rw [if_neg z]
        dsimp only
        by_cases w:(Aw6 s m).1≠0∧s m≠(Aw6 s m).1
        · rw [if_pos w]
          exact ⟨by omega,.inr (by omega),z,.inr (.inr (by omega))⟩
        · rw [if_neg w]
          have hw:s m=(Aw6 s m).1:=Decidable.of_not_not fun q=>w ⟨k,q⟩
          rw [hw]
          exact ⟨o,d,k,t⟩
 have at_:∀ i,i≤v→(i≤(Aw6 s (ix i+1)).2∧(Aw6 s (ix i+1)).1=g*sqI i):=by
  intro i
  induction i with
  | zero=>
    intro hi
    have f:=r 0 hi
    unfold Aw6
    rw [if_neg (by rw [f];have:=hgs 0;omega)]
    exact ⟨AU _,f⟩
  | succ i ih=>
    intro hi
    have hb:=ih (by omega)
    obtain ⟨o,d,k,_⟩:=on i (by omega) (ix (i+1)) (u i (by omega)) ⟨fun _ _=>trivial,hb⟩
    have f:=r (i+1) hi
    have hq:=hgs i
    rw [Fw1] at f ⊢
    have hne:s (ix (i+1))≠0:=by rw [f,Int.mul_neg];omega
    unfold Aw6
    rw [if_neg hne]
    refine ⟨?_,f⟩
    dsimp only
    rcases d with d | d
    · rw [if_pos ⟨k,by rw [f,d,Int.mul_neg];omega⟩];omega
    · split<;>omega
 exact (on v (AD _) N x ⟨fun _ _=>trivial,at_ v (AD _)⟩).1
theorem Fa2 {s:Nat→Int} (h:S3 s):∀ N:Nat,((∀ k,k<N→s k=0)∧(Aw6 s N)=(0,0)∧Aw6 (Bc1 s) N=(0,0)) ∨
 ∃ f p,f≤p∧p<N∧s f≠0∧s p≠0∧(∀ k,k<N→s k≠0→f≤k∧k≤p)∧(Aw6 s N).1=s p∧(Aw6 (Bc1 s) N).1=Bc1 s p∧(Aw6 s N).2+(Aw6 (Bc1 s) N).2≤p-f
 | 0 => .inl ⟨fun k hk=>by omega,rfl,rfl⟩
 | N+1=>by
   have ih:=Fa2 h N
   unfold Aw6
   by_cases z:s N=0
   · rw [if_pos z,if_pos (Ce6.2 z)]
     rcases ih with ⟨j,l,o⟩ | ⟨f,p,u,v,r,d,b5,t⟩
     · exact .inl ⟨fun k hk=>by
        by_cases c:k=N
        · rw [c];exact z
        · exact j k (by omega),l,o⟩
     · exact .inr ⟨f,p,u,by omega,r,d,fun k hk hne=>by
        by_cases c:k=N
        · rw [c] at hne;exact absurd z hne
        · exact b5 k (by omega) hne,t⟩
   · have x:Bc1 s N≠0:=fun c=>z (Ce6.1 c)
     rw [if_neg z,if_neg x]
     rcases ih with ⟨j,l,o⟩ | ⟨f,p,u,v,r,d,b5,t,b7,b8⟩
     · refine .inr ⟨N,N,AD _,by omega,z,z,fun k hk hne=>?_,rfl,rfl,?_⟩
       · by_cases c:k=N
         · omega
         · exact absurd (j k (by omega)) hne
       · rw [l,o];simp
     · refine .inr ⟨f,N,by omega,by omega,r,z,fun k hk hne=>?_,rfl,rfl,?_⟩
       · by_cases c:k=N
         · omega
         · have:=b5 k (by omega) hne
           omega
       · dsimp only
         rw [t,b7]
         have y:Bc1 s p≠0:=fun c=>d (Ce6.1 c)
         have e1:(if s p≠0∧s N≠s p then (Aw6 s N).2+1 else (Aw6 s N).2)=(Aw6 s N).2+if s N≠s p then 1 else 0:=by
          by_cases c:s N=s p
          · rw [if_neg (fun q=>q.2 c),if_neg (fun q=>q c)];rfl
          · rw [if_pos ⟨d,c⟩,if_pos c]
         have e2:(if Bc1 s p≠0∧Bc1 s N≠Bc1 s p then (Aw6 (Bc1 s) N).2+1 else (Aw6 (Bc1 s) N).2)=(Aw6 (Bc1 s) N).2+if Bc1 s N≠Bc1 s p then 1 else 0:=by
          by_cases c:Bc1 s N=Bc1 s p
          · rw [if_neg (fun q=>q.2 c),if_neg (fun q=>q c)];rfl
          · rw [if_pos ⟨y,c⟩,if_pos c]
         rw [e1,e2]
         have key:(if s N≠s p then 1 else 0)+(if Bc1 s N≠Bc1 s p then 1 else 0)≤N-p:=by
          have hN:=h N
          have hpp:=h p
          unfold Bc1 sqI
          by_cases g:N%2=0<;>by_cases i:p%2=0
          · rw [if_pos g,if_pos i];split<;>split<;>omega
          · rw [if_pos g,if_neg i];split<;>split<;>omega
          · rw [if_neg g,if_pos i];split<;>split<;>omega
          · rw [if_neg g,if_neg i];split<;>split<;>omega
         omega
theorem Fv1 {s:Nat→Int} {v w f p N:Nat} (h:S3 s) (hp:p<N) (hr:∀ k,k<N→s k≠0→f≤k∧k≤p) (d:Gs2 s v N) (l:Gs2 (Bc1 s) w N) (hvw:p≤f+v+w):(Aw6 s N).2=v∧(f≤p→s f≠0∧s p≠0):=by
 have x:=Ek8 d
 have y:=Ek8 l
 rcases Fa2 h N with ⟨o,z,a3⟩ | ⟨f',p',b1,r,i,j,b5,b6,b7,b8⟩
 · exfalso
   obtain ⟨ix,g,hg,t,c2,u⟩:=d
   have e:=u 0 (AU _)
   have hle:ix 0≤ix v:=Dq1 t (AU _) (AD _)
   rw [o _ (by omega)] at e
   unfold sqI at e
   rw [if_pos (by decide)] at e
   omega
 · have q1:=hr f' (by omega) i
   have q2:=hr p' r j
   refine ⟨by omega,fun hfp=>?_⟩
   have ef:f'=f:=by omega
   have ep:p'=p:=by omega
   rw [← ef,← ep]
   exact ⟨i,j⟩
theorem Gr4 (i j:Nat):sq (i+j)=sq i*sq j:=by
 induction j with
 | zero=>rw [Nat.add_zero];show sq i=sq i*1;rw [AM]
 | succ j ih=>rw [← Nat.add_assoc,Cq7,Cq7,ih];grind
section
variable {A:Nat→Nat→Rat}
theorem Gb0 (m:Nat):∀ r i,wC (fun i j => - A i j) m r i=sq (r+1)*wC A m r i
 | 0,i=>by
   show-A i m=sq 1*A i m
   have:sq 1 = -1:=rfl
   rw [this];grind
 | r+1,i=>by
   show (sm m fun l => - A i l*wC (fun i j => - A i j) m r l)=sq (r+2)*sm m fun l=>A i l*wC A m r l
   rw [← Ab9]
   refine Aa2 fun l _=>?_
   rw [Gb0 m r l,Cq7 (r+1)];grind
theorem Gt0 (m:Nat):∀ k,bS (fun i j => - A i j) m k=sq k*bS A m k
 | 0=>by show (1:Rat)=1*1;rw [AM]
 | 1=>by
   show - - A m m=sq 1 * - A m m
   have:sq 1 = -1:=rfl
   rw [this];grind
 | k+2=>by
   show-(sm m fun i => - A m i*wC (fun i j => - A i j) m k i)=sq (k+2) * - sm m fun i=>A m i*wC A m k i
   have e:(sm m fun i => - A m i*wC (fun i j => - A i j) m k i) = - sq (k+1)*sm m fun i=>A m i*wC A m k i:=by
    rw [← Ab9]
    exact Aa2 fun i _=>by rw [Gb0 m k i];grind
   rw [e,Cq7 (k+1)];grind
theorem Ez3:∀ (m k:Nat),ber (fun i j => - A i j) m k=sq k*ber A m k
 | 0,k=>by
   show un k=sq k*un k
   cases k with
   | zero=>show (1:Rat)=1*1;rw [AM]
   | succ k=>show (0:Rat)=_*0;rw [AL]
 | m+1,k=>by
   show (sm (k+1) fun i=>ber (fun i j => - A i j) m i*bS (fun i j => - A i j) m (k-i))=sq k*sm (k+1) fun i=>ber A m i*bS A m (k-i)
   rw [← Ab9]
   refine Aa2 fun i hi=>?_
   have e:sq k=sq i*sq (k-i):=by rw [← Gr4];congr 1;omega
   rw [Ez3 m i,Gt0 m (k-i),e];grind
end
def sgR (x:Rat):Int:=if x<0 then -1 else if x=0 then 0 else 1
theorem Gy9 (f:Nat→Rat):S3 fun k=>sgR (f k):=fun k=>by
 show sgR (f k) = -1∨sgR (f k)=0∨sgR (f k)=1
 unfold sgR
 split
 · exact .inl rfl
 · split
   · exact .inr (.inl rfl)
   · exact .inr (.inr rfl)
theorem Cn2 {x:Rat}:sgR x=0↔x=0:=by
 unfold sgR
 by_cases h:x<0
 · rw [if_pos h]
   exact ⟨fun c=>by omega,fun c=>by rw [c] at h;grind⟩
 · rw [if_neg h]
   by_cases g:x=0
   · rw [if_pos g];exact ⟨fun _=>g,fun _=>rfl⟩
   · rw [if_neg g];exact ⟨fun c=>by omega,fun c=>absurd c g⟩
theorem Ga6 {x:Rat} {i:Nat} (h:0<sq i*x):sgR x=sqI i:=by
 unfold sgR sqI
 unfold sq at h
 by_cases c:i%2=0
 · rw [if_pos c] at h ⊢
   rw [if_neg (by grind),if_neg (by grind)]
 · rw [if_neg c] at h ⊢
   rw [if_pos (by grind)]
theorem Ge6 {x:Rat} (k:Nat):sgR (sq k*x)=sqI k*sgR x:=by
 unfold sgR sqI sq
 by_cases c:k%2=0
 · rw [if_pos c,if_pos c,AZ];omega
 · rw [if_neg c,if_neg c]
   by_cases h:x<0
   · rw [if_pos h,if_neg (by grind),if_neg (by grind)];rfl
   · rw [if_neg h]
     by_cases g:x=0
     · rw [if_pos g,g,if_neg (by grind),if_pos (by grind)];rfl
     · rw [if_neg g,if_pos (by grind)];rfl
section
variable {n b a:Nat} {A:Nat→Nat→Rat}
theorem Gq9 (h:Sig n A b a):a+b≤n:=by
 obtain ⟨W,d,_,rfl,rfl⟩:=h
 have key:∀ m,Dc0 m d+Db3 m d≤m:=fun m=>by
  induction m with
  | zero=>exact AD _
  | succ m ih=>
    rw [Cw9,Co5]
    by_cases c:0<d m
    · rw [if_pos c,if_neg (by grind)];omega
    · rw [if_neg c];split<;>omega
 exact key n
theorem Fm8 (hs:∀ i j,A i j=A j i) (h:Sig n A b a):(Aw6 (fun k=>sgR (ber A n k)) (n+1)).2=a∧ber A n (a+b)≠0∧∀ k,a+b<k→ber A n k=0:=by
 have hle:=Gq9 h
 obtain ⟨⟨ix,d,y,g⟩,z⟩:=Ep1 hs h
 obtain ⟨⟨jx,l,j2,o⟩,_⟩:=Ep1 (A:=fun i j => - A i j) (fun i j=>by rw [hs i j]) h.neg
 have r:Gs2 (fun k=>sgR (ber A n k)) a (n+1):=⟨ix,1,.inl rfl,d,by omega,fun i hi=>by rw [BJ];exact Ga6 (g i hi)⟩
 have t:Gs2 (Bc1 fun k=>sgR (ber A n k)) b (n+1):=⟨jx,1,.inl rfl,l,by omega,fun i hi=>by
  have:=Ga6 (o i hi)
  rw [Ez3,Ge6] at this
  rw [BJ];exact this⟩
 have u:∀ k,k<n+1→sgR (ber A n k)≠0→0≤k∧k≤a+b:=fun k _ hne=>⟨AU _,Nat.not_lt.1 fun c=>hne (Cn2.2 (z k c))⟩
 obtain ⟨v,x⟩:=Fv1 (f:=0) (p:=a+b) (Gy9 _) (by omega) u r t (by omega)
 exact ⟨v,fun c=>(x (AU _)).2 (Cn2.2 c),z⟩
end
end Go.Ine
/-
  Characteristic polynomials of symmetric matrices end; whole numbers; scaling. No condition.
-/
namespace Go.Ine
theorem Gh1 {n k:Nat} {A:Nat→Nat→Rat} (hs:∀ i j,A i j=A j i) (hk:n<k):ber A n k=0:=by
 have hY:∀ m,∃ Y,Rel n A Y∧∀ i j,i<n→j<n→i≠j→Y i j*Y i j≤eM m*eM m:=fun m=>Fz0 (AC (Bd8 m) (Bd8 m)) hs
 obtain ⟨Y,hYm⟩:∃ Y:Nat→Nat→Nat→Rat,∀ m,Rel n A (Y m)∧∀ i j,i<n→j<n→i≠j→Y m i j*Y m i j≤eM m*eM m:=⟨fun m=>Classical.choose (hY m),fun m=>Classical.choose_spec (hY m)⟩
 clear hY
 have hoff:∀ m i j,i<n→j<n→i≠j→Bx (Y m i j) (eM m):=fun m i j hi hj hne=>Cm8 (AE (Bd8 m)) ((hYm m).2 i j hi hj hne)
 have hT0:0≤tr A n 2:=by
  rw [Ek4 hs]
  exact An7 fun i _=>An7 fun l _=>Ad0 _
 generalize hT:tr A n 2=T at *
 have hall:∀ m i j,i<n→j<n→Bx (Y m i j) (T+1):=fun m i j hi hj=>Cm8 (by grind) (by
  have f:=Fc9 (hYm m).1.sym hi hj
  rw [(hYm m).1.two,hT] at f
  have:=Ad0 T
  grind)
 have hnr:∀ i j,i<n→j<n→Nr (fun m=>diag (Y m) i j) fun m=>Y m i j:=fun i j hi hj=>by
  refine ⟨T+1,by grind,fun m=>?_⟩
  have g:=Bd8 m
  have y1:=hall m i j hi hj
  have s0:0≤T*eM m:=AB hT0 (AE g)
  have ex:(T+1)*eM m=T*eM m+eM m:=by grind
  show Bx (diag (Y m) i j) _∧_∧Bx (diag (Y m) i j-Y m i j) _
  rw [ex]
  unfold diag
  by_cases c:i=j
  · rw [if_pos c]
    exact ⟨y1,y1,by constructor<;>grind⟩
  · rw [if_neg c]
    have:=hoff m i j hi hj c
    exact ⟨by constructor<;>grind,y1,by constructor<;>grind⟩
 obtain ⟨K,K0,hK⟩:=En6 hnr n k (AD _)
 refine En8 K0 fun m=>?_
 have d:=(hK m).2.2
 have d:Bx (ber (diag (Y m)) n k-ber (Y m) n k) (K*eM m):=d
 rw [(hYm m).1.ber] at d
 have z:ber (diag (Y m)) n k=0:=by
  rw [Fe8 fun i j _ _ hne=>by unfold diag;rw [if_neg hne]]
  exact Ek9 _ _ (by rw [Aq8];exact hk)
 rw [z] at d
 exact d
def sI:Nat→(Nat→Int)→Int
 | 0,_=>0
 | n+1,f=>sI n f+f n
theorem Cf2 (f:Nat→Int):∀ n,((sI n f:Int):Rat)=sm n fun k=>(f k:Rat)
 | 0=>rfl
 | n+1=>by
   unfold sI sm
   rw [Rat.intCast_add,Cf2 f n]
theorem Cn4 {f g:Nat→Int}:∀ {n:Nat},(∀ k,k<n→f k=g k)→sI n f=sI n g
 | 0,_=>rfl
 | n+1,h=>by unfold sI;rw [Cn4 (n:=n) fun k hk=>h k (by omega),h n (by omega)]
theorem Dn7 (f:Nat→Int) (c:Int):∀ n,(sI n fun i=>c*f i)=c*sI n f
 | 0=>by unfold sI;simp
 | n+1=>by unfold sI;rw [Dn7 f c n,Int.mul_add]
section
variable (A:Nat→Nat→Int)
def wZ (m:Nat):Nat→Nat→Int
 | 0,i=>A i m
 | r+1,i=>sI m fun l=>A i l*wZ m r l
def hZ (m r:Nat):Int:=sI m fun i=>A m i*wZ A m r i
def bZ (m:Nat):Nat→Int
 | 0=>1
 | 1 => - A m m
 | k+2 => - hZ A m k
def beZ:Nat→Nat→Int
 | 0=>fun k=>if k=0 then 1 else 0
 | m+1=>fun k=>sI (k+1) fun i=>beZ m i*bZ A m (k-i)
end
section
variable {A:Nat→Nat→Int}
theorem Hd3 {m:Nat}:∀ (r i:Nat),((wZ A m r i:Int):Rat)=wC (fun i j=>(A i j:Rat)) m r i
 | 0,i=>rfl
 | r+1,i=>by
   show ((sI m fun l=>A i l*wZ A m r l:Int):Rat)=sm m fun l=>(A i l:Rat)*wC (fun i j=>(A i j:Rat)) m r l
   rw [Cf2]
   exact Aa2 fun l _=>by rw [AV,Hd3 r l]
theorem Hf1 {m:Nat}:∀ k:Nat,((bZ A m k:Int):Rat)=bS (fun i j=>(A i j:Rat)) m k
 | 0=>rfl
 | 1=>BE _
 | k+2=>by
   show ((- hZ A m k:Int):Rat) = - hS (fun i j=>(A i j:Rat)) m k
   rw [BE]
   unfold hZ hS
   rw [Cf2]
   congr 1
   exact Aa2 fun i _=>by rw [AV,Hd3]
theorem Fs0:∀ m k:Nat,((beZ A m k:Int):Rat)=ber (fun i j=>(A i j:Rat)) m k
 | 0,k=>by
   show ((if k=0 then 1 else 0:Int):Rat)=if k=0 then 1 else 0
   split<;>rfl
 | m+1,k=>by
   show ((sI (k+1) fun i=>beZ A m i*bZ A m (k-i):Int):Rat)=sm (k+1) fun i=>ber (fun i j=>(A i j:Rat)) m i*bS (fun i j=>(A i j:Rat)) m (k-i)
   rw [Cf2]
   exact Aa2 fun i _=>by rw [AV,Fs0 m i,Hf1]
theorem Gf5 (hs:∀ i j,A i j=A j i) {m k:Nat} (hk:m<k):beZ A m k=0:=by
 have h:=Gh1 (A:=fun i j=>(A i j:Rat)) (fun i j=>by rw [hs i j]) hk
 rw [← Fs0] at h
 exact Rat.intCast_inj.1 h
theorem Go2 (c:Int) {m:Nat}:∀ (r i:Nat),wZ (fun i j=>c*A i j) m r i=c^(r+1)*wZ A m r i
 | 0,i=>by show c*A i m=c^1*A i m;rw [BD,Int.pow_zero,BJ]
 | r+1,i=>by
   show (sI m fun l=>c*A i l*wZ (fun i j=>c*A i j) m r l)=c^(r+2)*sI m fun l=>A i l*wZ A m r l
   rw [← Dn7]
   exact Cn4 fun l _=>by rw [Go2 c r l,BD c (r+1)];grind
theorem Hb6 (c:Int) {m:Nat}:∀ k:Nat,bZ (fun i j=>c*A i j) m k=c^k*bZ A m k
 | 0=>by show (1:Int)=c^0*1;simp
 | 1=>by show-(c*A m m)=c^1 * - A m m;rw [BD,Int.pow_zero];grind
 | k+2=>by
   show-(sI m fun i=>c*A m i*wZ (fun i j=>c*A i j) m k i)=c^(k+2) * - (sI m fun i=>A m i*wZ A m k i)
   have:(sI m fun i=>c*A m i*wZ (fun i j=>c*A i j) m k i)=c^(k+2)*sI m fun i=>A m i*wZ A m k i:=by
    rw [← Dn7]
    exact Cn4 fun i _=>by rw [Go2 c k i,BD c (k+1)];grind
   rw [this];grind
theorem Fm3 (c:Int):∀ m k:Nat,beZ (fun i j=>c*A i j) m k=c^k*beZ A m k
 | 0,k=>by
   show (if k=0 then 1 else 0:Int)=c^k*if k=0 then 1 else 0
   cases k with
   | zero=>simp
   | succ k=>simp
 | m+1,k=>by
   show (sI (k+1) fun i=>beZ (fun i j=>c*A i j) m i*bZ (fun i j=>c*A i j) m (k-i))=c^k*sI (k+1) fun i=>beZ A m i*bZ A m (k-i)
   rw [← Dn7]
   exact Cn4 fun i hi=>by
    rw [Fm3 c m i,Hb6]
    have e:c^k=c^i*c^(k-i):=by rw [← Int.pow_add];congr 1;omega
    rw [e];grind
end
end Go.Ine
