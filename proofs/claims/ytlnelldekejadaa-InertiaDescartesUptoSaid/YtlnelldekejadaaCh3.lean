/-
  Sequences of rationals as power series: products, the derivation k c(k), Newton's rule. No condition.
-/
import Derived.Test.YtlnelldekejadaaIne5
set_option linter.all false
namespace Go.Ine
def cv (f g:Nat→Rat) (k:Nat):Rat:=sm (k+1) fun i=>f i*g (k-i)
theorem sm_rev (f:Nat→Rat):∀ n,sm (n+1) f=sm (n+1) fun i=>f (n-i)
  | 0=>rfl
  | n+1=>by
    rw [sm_head (fun i=>f (n+1-i)) (n+1)]
    show sm (n+1) f+f (n+1)=f (n+1-0)+sm (n+1) fun k=>f (n+1-(k+1))
    rw [sm_rev f n,sm_congr (g:=fun k=>f (n+1-(k+1))) fun k hk=>by rw [show n+1-(k+1)=n-k by omega]]
    rw [Rat.add_comm];rfl
theorem sm_tri:∀ (k:Nat) (F:Nat→Nat→Nat→Rat),sm (k+1) (fun i=>sm (i+1) fun j=>F j (i-j) (k-i))=sm (k+1) fun j=>sm (k-j+1) fun l=>F j l (k-j-l)
  | 0,F=>rfl
  | k+1,F=>by
    have e1:sm (k+2) (fun i=>sm (i+1) fun j=>F j (i-j) (k+1-i))=sm (k+2) (fun i=>F 0 i (k+1-i))+sm (k+2) (fun i=>sm i fun j=>F (j+1) (i-(j+1)) (k+1-i)):=by
      rw [← sm_add]
      refine sm_congr fun i _=>?_
      rw [sm_head];rfl
    have e2:sm (k+2) (fun i=>sm i fun j=>F (j+1) (i-(j+1)) (k+1-i))=sm (k+1) (fun i=>sm (i+1) fun j=>F (j+1) (i-j) (k-i)):=by
      rw [sm_head]
      have z:(sm 0 fun j=>F (j+1) (0-(j+1)) (k+1-0))=0:=rfl
      rw [z,Rat.zero_add]
      refine sm_congr fun i _=>sm_congr fun j _=>?_
      rw [show i+1-(j+1)=i-j by omega,show k+1-(i+1)=k-i by omega]
    rw [e1,e2,sm_tri k fun j l r=>F (j+1) l r,sm_head (fun j=>sm (k+1-j+1) fun l=>F j l (k+1-j-l))]
    congr 1
    refine sm_congr fun j _=>?_
    rw [show k+1-(j+1)=k-j by omega]
theorem cv_comm (f g:Nat→Rat):cv f g=cv g f:=by
  funext k
  unfold cv
  rw [sm_rev]
  refine sm_congr fun i hi=>?_
  rw [show k-(k-i)=i by omega,Rat.mul_comm]
theorem cv_assoc (f g h:Nat→Rat):cv (cv f g) h=cv f (cv g h):=by
  funext k
  have:=sm_tri k fun j l r=>f j*g l*h r
  unfold cv
  have e1:(sm (k+1) fun i=>(sm (i+1) fun j=>f j*g (i-j))*h (k-i))=sm (k+1) fun i=>sm (i+1) fun j=>f j*g (i-j)*h (k-i):=sm_congr fun i _=>(sm_mulr _ _ _).symm
  rw [e1,this]
  refine sm_congr fun i _=>?_
  rw [← sm_mul]
  exact sm_congr fun l _=>Rat.mul_assoc ..
theorem cv_addr (f g h:Nat→Rat):cv f (fun k=>g k+h k)=fun k=>cv f g k+cv f h k:=by
  funext k
  unfold cv
  rw [← sm_add]
  exact sm_congr fun i _=>Rat.mul_add ..
theorem cv_negr (f g:Nat→Rat):cv f (fun k => - g k)=fun k => - cv f g k:=by
  funext k
  unfold cv
  have e:(sm (k+1) fun i=>f i * - g (k-i))=sm (k+1) fun i => -1*(f i*g (k-i)):=sm_congr fun i _=>by grind
  rw [e,sm_mul];grind
def un (k:Nat):Rat:=if k=0 then 1 else 0
theorem cv_un (f:Nat→Rat):cv f un=f:=by
  funext k
  unfold cv
  rw [sm_one (i:=k) (by omega) fun i hi hne=>by unfold un;rw [if_neg (by omega),Rat.mul_zero]]
  unfold un
  rw [Nat.sub_self,if_pos rfl,Rat.mul_one]
theorem un_cv (f:Nat→Rat):cv un f=f:=by rw [cv_comm,cv_un]
def dv (f:Nat→Rat) (k:Nat):Rat:=(k:Rat)*f k
theorem cast_sub' {i k:Nat} (h:i≤k):((k:Nat):Rat)=(i:Rat)+((k-i:Nat):Rat):=by
  rw [← Rat.natCast_add];congr 1;omega
theorem dv_step (a b x y:Rat):(a+b)*(x*y)=a*x*y+x*(b*y):=by grind
theorem dv_cv (f g:Nat→Rat):dv (cv f g)=fun k=>cv (dv f) g k+cv f (dv g) k:=by
  funext k
  unfold dv cv
  rw [← sm_mul,← sm_add]
  refine sm_congr fun i hi=>?_
  rw [cast_sub' (show i≤k by omega)]
  exact dv_step _ _ _ _
def IsN (p c:Nat→Rat):Prop:=c 0=1∧dv c=fun k => - cv c p k
theorem IsN.step {p c:Nat→Rat} (h:IsN p c) (h0:p 0=0) (k:Nat):((k+1:Nat):Rat)*c (k+1) = - sm (k+1) fun i=>c i*p (k+1-i):=by
  have:=congrFun h.2 (k+1)
  unfold dv cv at this
  rw [this]
  show -(sm (k+1) (fun i=>c i*p (k+1-i))+c (k+1)*p (k+1-(k+1)))=_
  rw [Nat.sub_self,h0,Rat.mul_zero,Rat.add_zero]
theorem cast_pos (k:Nat):(0:Rat)<((k+1:Nat):Rat):=by
  have:=Rat.intCast_pos.2 (show (0:Int)<((k+1:Nat):Int) by omega)
  exact this
theorem cancel_l {a x y:Rat} (ha:0<a) (h:a*x=a*y):x=y:=by
  have h1:a*(x-y)=0:=by grind
  rcases Rat.mul_eq_zero.1 h1 with h2 | h2<;>grind
theorem newt_one {p p' c c':Nat→Rat} {n:Nat} (h0:c 0=1) (h0':c' 0=1) (hp:∀ k,0<k→k≤n→p k=p' k) (h:∀ k,k<n→((k+1:Nat):Rat)*c (k+1) = - sm (k+1) fun i=>c i*p (k+1-i))
    (h':∀ k,k<n→((k+1:Nat):Rat)*c' (k+1) = - sm (k+1) fun i=>c' i*p' (k+1-i)):∀ k,k≤n→c k=c' k:=by
  intro k
  induction k using Nat.strongRecOn with
  | ind k ih=>
    intro hk
    cases k with
    | zero=>rw [h0,h0']
    | succ k=>
      refine cancel_l (cast_pos k) ?_
      rw [h k (by omega),h' k (by omega)]
      congr 1
      exact sm_congr fun i hi=>by rw [ih i (by omega) (by omega),hp _ (by omega) (by omega)]
theorem IsN.mul {p d c b:Nat→Rat} (h:IsN p c) (hb:b 0=1) (hd:dv b=fun k => - cv b d k):IsN (fun k=>p k+d k) (cv c b):=by
  refine ⟨?_,?_⟩
  · show 0+c 0*b (0-0)=1
    rw [h.1,hb,Rat.zero_add,Rat.mul_one]
  · rw [dv_cv,h.2,hd,cv_negr]
    funext k
    rw [cv_addr]
    have e1:cv (fun k => - cv c p k) b k = - cv (cv c b) p k:=by
      rw [cv_comm,cv_negr,← cv_assoc,cv_comm b c]
    have e2:cv c (cv b d) k=cv (cv c b) d k:=by rw [cv_assoc]
    rw [e1]
    show-cv (cv c b) p k + - cv c (cv b d) k = - (cv (cv c b) p k+cv (cv c b) d k)
    rw [e2];grind
end Go.Ine
/-
  Characteristic polynomials over rationals: corner after corner; sums of the diagonals of powers. No condition.
-/
namespace Go.Ine
section
variable (A:Nat→Nat→Rat)
def pw (m:Nat):Nat→Nat→Nat→Rat
  | 0,i,j=>if i=j then 1 else 0
  | k+1,i,j=>sm m fun l=>A i l*pw m k l j
def tr (m k:Nat):Rat:=if k=0 then 0 else sm m fun i=>pw A m k i i
def wC (m:Nat):Nat→Nat→Rat
  | 0,i=>A i m
  | r+1,i=>sm m fun l=>A i l*wC m r l
def xR (m:Nat):Nat→Nat→Rat
  | 0,j=>A m j
  | u+1,j=>sm m fun l=>xR m u l*A l j
def hS (m r:Nat):Rat:=sm m fun i=>A m i*wC A m r i
def bS (m:Nat):Nat→Rat
  | 0=>1
  | 1 => - A m m
  | k+2 => - hS A m k
def ber:Nat→Nat→Rat
  | 0=>un
  | m+1=>cv (ber m) (bS A m)
end
section
variable {A:Nat→Nat→Rat}
theorem xw {m:Nat}:∀ (u r:Nat),sm m (fun i=>xR A m u i*wC A m r i)=hS A m (u+r)
  | 0,r=>by rw [Nat.zero_add];rfl
  | u+1,r=>by
    have e:sm m (fun i=>xR A m (u+1) i*wC A m r i)=sm m fun i=>sm m fun l=>xR A m u l*A l i*wC A m r i:=sm_congr fun i _=>(sm_mulr _ _ _).symm
    rw [e,sm_swap]
    have e2:(sm m fun l=>sm m fun i=>xR A m u l*A l i*wC A m r i)=sm m fun l=>xR A m u l*wC A m (r+1) l:=sm_congr fun l _=>by
      show _=xR A m u l*sm m fun i=>A l i*wC A m r i
      rw [← sm_mul]
      exact sm_congr fun i _=>Rat.mul_assoc ..
    rw [e2,xw u (r+1)]
    congr 1;omega
theorem del_l {m i:Nat} (f:Nat→Rat) (hi:i<m):(sm m fun l=>(if i=l then 1 else 0)*f l)=f i:=by
  rw [sm_one hi fun k _ hne=>by rw [if_neg (by omega),Rat.zero_mul],if_pos rfl,Rat.one_mul]
theorem del_r {m j:Nat} (f:Nat→Rat) (hj:j<m):(sm m fun l=>f l*(if l=j then 1 else 0))=f j:=by
  rw [sm_one hj fun k _ hne=>by rw [if_neg (by omega),Rat.mul_zero],if_pos rfl,Rat.mul_one]
theorem pw_r {m:Nat}:∀ {k i j:Nat},i<m→j<m→pw A m (k+1) i j=sm m fun l=>pw A m k i l*A l j
  | 0,i,j,hi,hj=>by
    show (sm m fun l=>A i l*(if l=j then 1 else 0))=sm m fun l=>(if i=l then 1 else 0)*A l j
    rw [del_r _ hj,del_l _ hi]
  | k+1,i,j,hi,hj=>by
    have e1:pw A m (k+2) i j=sm m fun l=>sm m fun q=>A i l*pw A m k l q*A q j:=by
      show (sm m fun l=>A i l*pw A m (k+1) l j)=_
      refine sm_congr fun l hl=>?_
      rw [pw_r hl hj,← sm_mul]
      exact sm_congr fun q _=>(Rat.mul_assoc ..).symm
    rw [e1,sm_swap]
    refine sm_congr fun q _=>?_
    rw [sm_mulr];rfl
variable {m:Nat}
abbrev gg (A:Nat→Nat→Rat) (m k:Nat):Rat:=pw A (m+1) k m m
theorem y_t:∀ (k i:Nat),i<m→pw A (m+1) k i m=sm k fun q=>gg A m q*wC A m (k-1-q) i
  | 0,i,hi=>by
    show (if i=m then (1:Rat) else 0)=0
    rw [if_neg (by omega)]
  | k+1,i,hi=>by
    show sm m (fun l=>A i l*pw A (m+1) k l m)+A i m*pw A (m+1) k m m=sm k (fun q=>gg A m q*wC A m (k+1-1-q) i)+gg A m k*wC A m (k+1-1-k) i
    have e:sm m (fun l=>A i l*pw A (m+1) k l m)=sm k fun q=>gg A m q*wC A m (k+1-1-q) i:=by
      have e1:sm m (fun l=>A i l*pw A (m+1) k l m)=sm m fun l=>sm k fun q=>gg A m q*(A i l*wC A m (k-1-q) l):=sm_congr fun l hl=>by
        rw [y_t k l hl,← sm_mul]
        exact sm_congr fun q _=>by grind
      rw [e1,sm_swap]
      refine sm_congr fun q hq=>?_
      rw [sm_mul,show k+1-1-q=(k-1-q)+1 by omega];rfl
    rw [e,show k+1-1-k=0 by omega]
    show _+A i m*pw A (m+1) k m m=_+pw A (m+1) k m m*A i m
    rw [Rat.mul_comm (A i m)]
theorem z_t:∀ (k j:Nat),j<m→pw A (m+1) k m j=sm k fun q=>gg A m q*xR A m (k-1-q) j
  | 0,j,hj=>by
    show (if m=j then (1:Rat) else 0)=0
    rw [if_neg (by omega)]
  | k+1,j,hj=>by
    rw [pw_r (by omega) (by omega)]
    show sm m (fun l=>pw A (m+1) k m l*A l j)+pw A (m+1) k m m*A m j=sm k (fun q=>gg A m q*xR A m (k+1-1-q) j)+gg A m k*xR A m (k+1-1-k) j
    have e:sm m (fun l=>pw A (m+1) k m l*A l j)=sm k fun q=>gg A m q*xR A m (k+1-1-q) j:=by
      have e1:sm m (fun l=>pw A (m+1) k m l*A l j)=sm m fun l=>sm k fun q=>gg A m q*(xR A m (k-1-q) l*A l j):=sm_congr fun l hl=>by
        rw [z_t k l hl,← sm_mulr]
        exact sm_congr fun q _=>by grind
      rw [e1,sm_swap]
      refine sm_congr fun q hq=>?_
      rw [sm_mul,show k+1-1-q=(k-1-q)+1 by omega];rfl
    rw [e,show k+1-1-k=0 by omega]
    rfl
theorem g_t (k:Nat):gg A m (k+1)=sm k (fun q=>gg A m q*hS A m (k-1-q))+A m m*gg A m k:=by
  show sm m (fun l=>A m l*pw A (m+1) k l m)+A m m*pw A (m+1) k m m=_
  congr 1
  have e1:sm m (fun l=>A m l*pw A (m+1) k l m)=sm m fun l=>sm k fun q=>gg A m q*(A m l*wC A m (k-1-q) l):=sm_congr fun l hl=>by
    rw [y_t k l hl,← sm_mul]
    exact sm_congr fun q _=>by grind
  rw [e1,sm_swap]
  exact sm_congr fun q hq=>by rw [sm_mul];rfl
theorem del_t:∀ (k i j:Nat),i<m→j<m→pw A (m+1) k i j=pw A m k i j+sm k fun r=>wC A m r i*pw A (m+1) (k-1-r) m j
  | 0,i,j,hi,hj=>by
    show (if i=j then (1:Rat) else 0)=(if i=j then 1 else 0)+0
    rw [Rat.add_zero]
  | k+1,i,j,hi,hj=>by
    rw [sm_head]
    show sm m (fun l=>A i l*pw A (m+1) k l j)+A i m*pw A (m+1) k m j=pw A m (k+1) i j+(A i m*pw A (m+1) (k+1-1-0) m j+sm k fun r=>wC A m (r+1) i*pw A (m+1) (k+1-1-(r+1)) m j)
    have e:sm m (fun l=>A i l*pw A (m+1) k l j)=pw A m (k+1) i j+sm k fun r=>wC A m (r+1) i*pw A (m+1) (k+1-1-(r+1)) m j:=by
      have e1:sm m (fun l=>A i l*pw A (m+1) k l j)=sm m fun l=>A i l*pw A m k l j+sm k fun r=>(A i l*wC A m r l)*pw A (m+1) (k-1-r) m j:=sm_congr fun l hl=>by
        rw [del_t k l j hl hj,Rat.mul_add,← sm_mul]
        congr 1
        exact sm_congr fun q _=>(Rat.mul_assoc ..).symm
      rw [e1,sm_add,sm_swap]
      congr 1
      refine sm_congr fun r _=>?_
      rw [sm_mulr,show k+1-1-(r+1)=k-1-r by omega];rfl
    rw [e,show k+1-1-0=k by omega]
    grind
def dS (A:Nat→Nat→Rat) (m k:Nat):Rat:=if k=0 then 0 else gg A m k+sm (k-1) fun q=>((k-1-q:Nat):Rat)*(gg A m q*hS A m (k-2-q))
theorem fan (f:Nat→Rat):∀ K:Nat,(sm K fun r=>sm (K-r) f)=sm K fun q=>((K-q:Nat):Rat)*f q
  | 0=>rfl
  | K+1=>by
    rw [sm_head]
    have e:(sm K fun k=>sm (K+1-(k+1)) f)=sm K fun r=>sm (K-r) f:=sm_congr fun r _=>by rw [show K+1-(r+1)=K-r by omega]
    rw [e,fan f K]
    show sm (K+1-0) f+_=sm K (fun q=>((K+1-q:Nat):Rat)*f q)+((K+1-K:Nat):Rat)*f K
    have e2:(sm K fun q=>((K+1-q:Nat):Rat)*f q)=sm K fun q=>((K-q:Nat):Rat)*f q+f q:=sm_congr fun q hq=>by
      rw [show K+1-q=(K-q)+1 by omega,Rat.natCast_add]
      have:((1:Nat):Rat)=1:=rfl
      rw [this];grind
    rw [e2,sm_add,show K+1-K=1 by omega]
    show sm K f+f K+_=_+sm K f+(1:Rat)*f K
    grind
theorem tr_t (k:Nat):tr A (m+1) k=tr A m k+dS A m k:=by
  cases k with
  | zero=>show (0:Rat)=0+0;rw [Rat.add_zero]
  | succ K=>
    show sm m (fun i=>pw A (m+1) (K+1) i i)+gg A m (K+1)=sm m (fun i=>pw A m (K+1) i i)+(gg A m (K+1)+sm (K+1-1) fun q=>((K+1-1-q:Nat):Rat)*(gg A m q*hS A m (K+1-2-q)))
    have e1:sm m (fun i=>pw A (m+1) (K+1) i i)=sm m (fun i=>pw A m (K+1) i i)+sm m fun i=>sm (K+1) fun r=>wC A m r i*pw A (m+1) (K+1-1-r) m i:=by
      rw [← sm_add]
      exact sm_congr fun i hi=>del_t (K+1) i i hi hi
    have e2:(sm m fun i=>sm (K+1) fun r=>wC A m r i*pw A (m+1) (K+1-1-r) m i)=sm (K+1) fun r=>sm (K-r) fun q=>gg A m q*hS A m (K-1-q):=by
      rw [sm_swap]
      refine sm_congr fun r hr=>?_
      have e3:(sm m fun i=>wC A m r i*pw A (m+1) (K+1-1-r) m i)=sm m fun i=>sm (K-r) fun q=>gg A m q*(xR A m (K-r-1-q) i*wC A m r i):=sm_congr fun i hi=>by
        rw [z_t _ i hi,← sm_mul,show K+1-1-r=K-r by omega]
        exact sm_congr fun q _=>by grind
      rw [e3,sm_swap]
      refine sm_congr fun q hq=>?_
      rw [sm_mul,xw]
      congr 2;omega
    have e4:(sm (K+1) fun r=>sm (K-r) fun q=>gg A m q*hS A m (K-1-q))=sm K fun q=>((K-q:Nat):Rat)*(gg A m q*hS A m (K-1-q)):=by
      show sm K (fun r=>sm (K-r) fun q=>gg A m q*hS A m (K-1-q))+sm (K-K) _=_
      rw [fan,Nat.sub_self]
      exact Rat.add_zero _
    rw [e1,e2,e4,show K+1-1=K by omega]
    have e5:(sm K fun q=>((K-q:Nat):Rat)*(gg A m q*hS A m (K+1-2-q)))=sm K fun q=>((K-q:Nat):Rat)*(gg A m q*hS A m (K-1-q)):=sm_congr fun q _=>by rw [show K+1-2-q=K-1-q by omega]
    rw [e5];grind
theorem bg_un:cv (bS A m) (gg A m)=un:=by
  funext k
  cases k with
  | zero=>
    show 0+(1:Rat)*(if m=m then 1 else 0)=1
    rw [if_pos rfl,Rat.zero_add,Rat.mul_one]
  | succ k=>
    show cv (bS A m) (gg A m) (k+1)=0
    unfold cv
    rw [sm_head,sm_head]
    show (1:Rat)*gg A m (k+1)+(- A m m*gg A m k+sm k fun s => - hS A m s*gg A m (k+1-(s+1+1)))=0
    have e:(sm k fun s => - hS A m s*gg A m (k+1-(s+1+1))) = -1*sm k fun q=>gg A m q*hS A m (k-1-q):=by
      rw [← sm_mul]
      cases k with
      | zero=>rfl
      | succ k=>
        rw [sm_rev]
        refine sm_congr fun q hq=>?_
        rw [show k+1+1-(k-q+1+1)=q by omega,show k+1-1-q=k-q by omega]
        grind
    rw [e,g_t];grind
theorem d_t:dv (bS A m)=fun k => - cv (bS A m) (dS A m) k:=by
  have key:dS A m=fun k => - cv (gg A m) (dv (bS A m)) k:=by
    funext k
    cases k with
    | zero=>
      show (0:Rat) = - (0+gg A m 0*(((0:Nat):Rat)*1))
      have:((0:Nat):Rat)=0:=rfl
      rw [this];grind
    | succ K=>
      have hu:cv (bS A m) (gg A m) (K+1)=0:=by rw [bg_un];rfl
      rw [cv_comm]
      have hsum:cv (bS A m) (gg A m) (K+1)-cv (dv (bS A m)) (gg A m) (K+1)=gg A m (K+1)+sm K fun s=>((s+1:Nat):Rat)*(hS A m s*gg A m (K-1-s)):=by
        unfold cv
        rw [sm_head,sm_head,sm_head (fun i=>dv (bS A m) i*gg A m (K+1-i)),sm_head (fun k=>dv (bS A m) (k+1)*gg A m (K+1-(k+1)))]
        show (1:Rat)*gg A m (K+1)+(- A m m*gg A m K+sm K fun s => - hS A m s*gg A m (K+1-(s+1+1)))-(((0:Nat):Rat)*1*gg A m (K+1)+(((1:Nat):Rat) * - A m m*gg A m K+sm K fun s=>(((s+2:Nat):Rat) * - hS A m s)*gg A m (K+1-(s+1+1))))=_
        have h0:((0:Nat):Rat)=0:=rfl
        have h1:((1:Nat):Rat)=1:=rfl
        have e:(sm K fun s => - hS A m s*gg A m (K+1-(s+1+1))) + -1*(sm K fun s=>(((s+2:Nat):Rat) * - hS A m s)*gg A m (K+1-(s+1+1)))=sm K fun s=>((s+1:Nat):Rat)*(hS A m s*gg A m (K-1-s)):=by
          rw [← sm_mul,← sm_add]
          refine sm_congr fun s _=>?_
          rw [show K+1-(s+1+1)=K-1-s by omega,show s+2=(s+1)+1 by omega,Rat.natCast_add (s+1) 1,h1]
          grind
        rw [h0,h1]
        grind
      have hr:(sm K fun s=>((s+1:Nat):Rat)*(hS A m s*gg A m (K-1-s)))=sm (K+1-1) fun q=>((K+1-1-q:Nat):Rat)*(gg A m q*hS A m (K+1-2-q)):=by
        rw [show K+1-1=K by omega]
        cases K with
        | zero=>rfl
        | succ K=>
          rw [sm_rev]
          refine sm_congr fun q hq=>?_
          rw [show K+1-1-(K-q)=q by omega,show K-q+1=K+1-q by omega,show K+1+1-2-q=K-q by omega,Rat.mul_comm (hS A m (K-q))]
      show gg A m (K+1)+(sm (K+1-1) fun q=>((K+1-1-q:Nat):Rat)*(gg A m q*hS A m (K+1-2-q))) = - cv (dv (bS A m)) (gg A m) (K+1)
      rw [← hr]
      grind
  have e:cv (bS A m) (dS A m)=fun k => - dv (bS A m) k:=by
    rw [key,cv_negr,← cv_assoc,bg_un,un_cv]
  funext k
  rw [e];grind
theorem ber_N:∀ m:Nat,IsN (tr A m) (ber A m)
  | 0=>by
    refine ⟨rfl,?_⟩
    funext k
    show (k:Rat)*un k = - cv un (tr A 0) k
    rw [un_cv]
    cases k with
    | zero=>
        show ((0:Nat):Rat)*1 = - 0
        have h0:((0:Nat):Rat)=0:=rfl
        rw [h0];grind
    | succ k=>
        show ((k+1:Nat):Rat)*0 = - 0
        grind
  | m+1=>by
    have h:=(ber_N m).mul (b:=bS A m) (d:=dS A m) rfl d_t
    have e:tr A (m+1)=fun k=>tr A m k+dS A m k:=funext fun k=>tr_t k
    rw [e];exact h
end
end Go.Ine
/-
  Characteristic polynomials over rationals: whole numbers, turned bases, diagonals, the road by traces. No condition.
-/
namespace Go.Ine
def IsI (x:Rat):Prop:=∃ z:Int,x=z
theorem IsI.add {x y:Rat} (h:IsI x) (k:IsI y):IsI (x+y):=by
  obtain ⟨a,rfl⟩:=h
  obtain ⟨b,rfl⟩:=k
  exact ⟨a+b,(Rat.intCast_add a b).symm⟩
theorem IsI.mul {x y:Rat} (h:IsI x) (k:IsI y):IsI (x*y):=by
  obtain ⟨a,rfl⟩:=h
  obtain ⟨b,rfl⟩:=k
  exact ⟨a*b,(Rat.intCast_mul a b).symm⟩
theorem IsI.neg {x:Rat} (h:IsI x):IsI (- x):=by
  obtain ⟨a,rfl⟩:=h
  exact ⟨-a,(Rat.intCast_neg a).symm⟩
theorem IsI.sm {f:Nat→Rat}:∀ {n:Nat},(∀ k,k<n→IsI (f k))→IsI (Go.Ine.sm n f)
  | 0,_=>⟨0,rfl⟩
  | n+1,h=>(IsI.sm fun k hk=>h k (by omega)).add (h n (by omega))
theorem IsI.one:IsI 1:=⟨1,rfl⟩
theorem IsI.zero:IsI 0:=⟨0,rfl⟩
section
variable {A:Nat→Nat→Rat}
theorem wC_int {m:Nat} (h:∀ i j,IsI (A i j)):∀ r i,IsI (wC A m r i)
  | 0,i=>h i m
  | r+1,i=>IsI.sm fun l _=>(h i l).mul (wC_int h r l)
theorem bS_int {m:Nat} (h:∀ i j,IsI (A i j)):∀ k,IsI (bS A m k)
  | 0 => .one
  | 1=>(h m m).neg
  | k+2=>(IsI.sm fun i _=>(h m i).mul (wC_int h k i)).neg
theorem ber_int (h:∀ i j,IsI (A i j)):∀ m k,IsI (ber A m k)
  | 0,k=>by
    show IsI (un k)
    unfold un
    split
    · exact .one
    · exact .zero
  | m+1,k=>IsI.sm fun i _=>(ber_int h m i).mul (bS_int h (k-i))
def flN (A:Nat→Nat→Rat) (n:Nat) (c:Nat→Rat) (k i j:Nat):Rat:=sm k fun q=>c q*pw A n (k-q) i j
theorem fl_next {n k i j:Nat} (c:Nat→Rat) (hi:i<n) (hj:j<n):(sm n fun l=>A i l*(flN A n c k l j+if l=j then c k else 0))=flN A n c (k+1) i j:=by
  unfold flN
  show _=sm k (fun q=>c q*pw A n (k+1-q) i j)+c k*pw A n (k+1-k) i j
  have e1:(sm n fun l=>A i l*((sm k fun q=>c q*pw A n (k-q) l j)+if l=j then c k else 0))=(sm n fun l=>sm k fun q=>c q*(A i l*pw A n (k-q) l j))+sm n fun l=>c k*(A i l*if l=j then 1 else 0):=by
    rw [← sm_add]
    refine sm_congr fun l _=>?_
    rw [Rat.mul_add,← sm_mul]
    congr 1
    · exact sm_congr fun q _=>by grind
    · split<;>grind
  rw [e1,sm_swap,sm_mul,show k+1-k=1 by omega]
  congr 1
  refine sm_congr fun q hq=>?_
  rw [sm_mul,show k+1-q=(k-q)+1 by omega];rfl
theorem fl_tr {n k:Nat} (c:Nat→Rat):(sm n fun i=>flN A n c (k+1) i i)=sm (k+1) fun q=>c q*tr A n (k+1-q):=by
  unfold flN
  rw [sm_swap]
  refine sm_congr fun q hq=>?_
  rw [sm_mul]
  unfold tr
  rw [if_neg (by omega)]
def cj (n:Nat) (Q A:Nat→Nat→Rat) (i j:Nat):Rat:=sm n fun p=>sm n fun q=>Q p i*A p q*Q q j
def Orth (n:Nat) (Q:Nat→Nat→Rat):Prop:=∀ p q,p<n→q<n→(sm n fun i=>Q p i*Q q i)=if p=q then 1 else 0
theorem cj_step {n i j k:Nat} {Q:Nat→Nat→Rat} (hQ:Orth n Q) (hi:i<n) (hj:j<n):(sm n fun l=>cj n Q A i l*cj n Q (fun p q=>pw A n k p q) l j)=cj n Q (fun p q=>pw A n (k+1) p q) i j:=by
  have e1:(sm n fun l=>cj n Q A i l*cj n Q (fun p q=>pw A n k p q) l j)=sm n fun p=>sm n fun q=>sm n fun r=>sm n fun s=>(Q p i*A p q*(pw A n k r s*Q s j))*(sm n fun l=>Q q l*Q r l):=by
    have a1:(sm n fun l=>cj n Q A i l*cj n Q (fun p q=>pw A n k p q) l j)=sm n fun l=>sm n fun p=>sm n fun q=>sm n fun r=>sm n fun s=>(Q p i*A p q*(pw A n k r s*Q s j))*(Q q l*Q r l):=sm_congr fun l _=>by
      unfold cj
      rw [← sm_mulr]
      refine sm_congr fun p _=>?_
      rw [← sm_mulr]
      refine sm_congr fun q _=>?_
      rw [← sm_mul]
      refine sm_congr fun r _=>?_
      rw [← sm_mul]
      exact sm_congr fun s _=>by grind
    rw [a1,sm_swap]
    refine sm_congr fun p _=>?_
    rw [sm_swap]
    refine sm_congr fun q _=>?_
    rw [sm_swap]
    refine sm_congr fun r _=>?_
    rw [sm_swap]
    exact sm_congr fun s _=>by rw [sm_mul]
  rw [e1]
  refine sm_congr fun p _=>?_
  have e2:(sm n fun q=>sm n fun r=>sm n fun s=>(Q p i*A p q*(pw A n k r s*Q s j))*(sm n fun l=>Q q l*Q r l))=sm n fun q=>sm n fun s=>Q p i*A p q*(pw A n k q s*Q s j):=sm_congr fun q hq=>by
    rw [sm_one hq fun r hr hne=>sm_zero fun s _=>by rw [hQ q r hq hr,if_neg (by omega),Rat.mul_zero]]
    refine sm_congr fun s _=>?_
    rw [hQ q q hq hq,if_pos rfl,Rat.mul_one]
  rw [e2,sm_swap]
  refine sm_congr fun s _=>?_
  show _=Q p i*(sm n fun l=>A p l*pw A n k l s)*Q s j
  rw [← sm_mul,← sm_mulr]
  exact sm_congr fun q _=>by grind
theorem cj_pw {n:Nat} {Q:Nat→Nat→Rat} (hQ:Orth n Q):∀ (k i j:Nat),i<n→j<n→pw (cj n Q A) n (k+1) i j=cj n Q (fun p q=>pw A n (k+1) p q) i j
  | 0,i,j,hi,hj=>by
    show (sm n fun l=>cj n Q A i l*(if l=j then 1 else 0))=_
    rw [del_r _ hj]
    refine sm_congr fun p hp=>sm_congr fun q hq=>?_
    show _=Q p i*(sm n fun l=>A p l*(if l=q then 1 else 0))*Q q j
    rw [del_r _ hq]
  | k+1,i,j,hi,hj=>by
    rw [← cj_step hQ hi hj]
    show (sm n fun l=>cj n Q A i l*pw (cj n Q A) n (k+1) l j)=_
    exact sm_congr fun l hl=>by rw [cj_pw hQ k l j hl hj]
theorem cj_tr {n:Nat} {Q:Nat→Nat→Rat} (hQ:Orth n Q) (k:Nat):tr (cj n Q A) n k=tr A n k:=by
  cases k with
  | zero=>rfl
  | succ k=>
    show (sm n fun i=>pw (cj n Q A) n (k+1) i i)=sm n fun i=>pw A n (k+1) i i
    have e1:(sm n fun i=>pw (cj n Q A) n (k+1) i i)=sm n fun i=>sm n fun p=>sm n fun q=>pw A n (k+1) p q*(Q p i*Q q i):=sm_congr fun i hi=>by
      rw [cj_pw hQ k i i hi hi]
      exact sm_congr fun p _=>sm_congr fun q _=>by grind
    rw [e1,sm_swap]
    refine sm_congr fun p hp=>?_
    rw [sm_swap]
    have e2:(sm n fun q=>sm n fun i=>pw A n (k+1) p q*(Q p i*Q q i))=sm n fun q=>pw A n (k+1) p q*(if p=q then 1 else 0):=sm_congr fun q hq=>by
      rw [sm_mul,hQ p q hp hq]
    rw [e2,sm_one hp fun q _ hne=>by rw [if_neg (by omega),Rat.mul_zero],if_pos rfl,Rat.mul_one]
theorem cj_ber {n:Nat} {Q:Nat→Nat→Rat} (hQ:Orth n Q) (k:Nat):ber (cj n Q A) n k=ber A n k:=
  newt_one (n:=k) (p:=tr (cj n Q A) n) (p':=tr A n) (ber_N n).1 (ber_N n).1 (fun j _ _=>cj_tr hQ j) (fun j _=>(ber_N n).step rfl j) (fun j _=>(ber_N n).step rfl j) k (Nat.le_refl _)
theorem wC_diag {m:Nat} (h:∀ i,i<m→A i m=0):∀ r i,i<m→wC A m r i=0
  | 0,i,hi=>h i hi
  | r+1,i,hi=>sm_zero fun l hl=>by rw [wC_diag h r l hl,Rat.mul_zero]
theorem ber_diag {m:Nat} (h:∀ i,i<m→A i m=0) (k:Nat):ber A (m+1) (k+1)=ber A m (k+1) + - A m m*ber A m k:=by
  show cv (ber A m) (bS A m) (k+1)=_
  rw [cv_comm]
  unfold cv
  rw [sm_head,sm_head,sm_zero fun s hs=>?_]
  · show 1*ber A m (k+1)+(- A m m*ber A m k+0)=_
    grind
  · show-hS A m s*_=0
    unfold hS
    rw [sm_zero fun i hi=>by rw [wC_diag h s i hi,Rat.mul_zero]]
    grind
theorem ber_zero (A:Nat→Nat→Rat) (m:Nat):ber A m 0=1:=(ber_N m).1
end
end Go.Ine
