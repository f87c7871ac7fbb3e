/-
  A symmetric matrix of rationals may be turned until it is almost a diagonal. No condition.
-/
import Derived.Test.YtlnelldekejadaaCh3
set_option linter.all false
namespace Go.Ine
def minusX (A:Nat→Nat→Rat) (x:Rat) (i j:Nat):Rat:=A i j-if i=j then x else 0
def Up (n:Nat) (A:Nat→Nat→Rat) (x:Rat) (a:Nat):Prop:=∃ W:Nat→Nat→Rat,∀ c:Nat→Rat,(∃ i,i<a∧c i≠0)→0<bil n (minusX A x) (lc a c W) (lc a c W)
structure Rel (n:Nat) (A X:Nat→Nat→Rat):Prop where
  sym:∀ i j,X i j=X j i
  ber:∀ k,ber X n k=ber A n k
  two:tr X n 2=tr A n 2
  sig:∀ x b a,Sig n (minusX A x) b a→Sig n (minusX X x) b a
  up:∀ x a,Up n A x a→Up n X x a
theorem Rel.refl {n:Nat} {A:Nat→Nat→Rat} (h:∀ i j,A i j=A j i):Rel n A A:=⟨h,fun _=>rfl,rfl,fun _ _ _ h=>h,fun _ _ h=>h⟩
theorem Rel.trans {n:Nat} {A X Y:Nat→Nat→Rat} (h:Rel n A X) (k:Rel n X Y):Rel n A Y:=
  ⟨k.sym,fun j=>(k.ber j).trans (h.ber j),k.two.trans h.two,fun x b a g=>k.sig x b a (h.sig x b a g),fun x a g=>k.up x a (h.up x a g)⟩
theorem cj_sym {n:Nat} {Q A:Nat→Nat→Rat} (h:∀ i j,A i j=A j i) (i j:Nat):cj n Q A i j=cj n Q A j i:=by
  unfold cj
  rw [sm_swap]
  exact sm_congr fun p _=>sm_congr fun q _=>by rw [h q p];grind
theorem cj_back {n:Nat} {Q A:Nat→Nat→Rat} (hQ:Orth n Q) {p q:Nat} (hp:p<n) (hq:q<n):bil n (cj n Q A) (Q p) (Q q)=A p q:=by
  unfold bil cj
  have e1:(sm n fun i=>sm n fun j=>Q p i*(sm n fun r=>sm n fun s=>Q r i*A r s*Q s j)*Q q j)=sm n fun r=>sm n fun s=>A r s*(sm n fun i=>Q p i*Q r i)*(sm n fun j=>Q q j*Q s j):=by
    have a1:(sm n fun i=>sm n fun j=>Q p i*(sm n fun r=>sm n fun s=>Q r i*A r s*Q s j)*Q q j)=sm n fun i=>sm n fun j=>sm n fun r=>sm n fun s=>A r s*(Q p i*Q r i)*(Q q j*Q s j):=sm_congr fun i _=>sm_congr fun j _=>by
      rw [← sm_mul,← sm_mulr]
      refine sm_congr fun r _=>?_
      rw [← sm_mul,← sm_mulr]
      exact sm_congr fun s _=>by grind
    have a2:∀ i,(sm n fun j=>sm n fun r=>sm n fun s=>A r s*(Q p i*Q r i)*(Q q j*Q s j))=sm n fun r=>sm n fun s=>A r s*(Q p i*Q r i)*(sm n fun j=>Q q j*Q s j):=fun i=>by
      rw [sm_swap]
      refine sm_congr fun r _=>?_
      rw [sm_swap]
      exact sm_congr fun s _=>by rw [sm_mul]
    rw [a1,sm_congr (fun i _=>a2 i),sm_swap]
    refine sm_congr fun r _=>?_
    rw [sm_swap]
    refine sm_congr fun s _=>?_
    rw [sm_mulr,sm_mul]
  rw [e1,sm_one hp fun r hr hne=>sm_zero fun s _=>by rw [hQ p r hp hr,if_neg (by omega)];grind]
  rw [sm_one hq fun s hs hne=>by rw [hQ q s hq hs,if_neg (by omega)];grind]
  rw [hQ p p hp hp,hQ q q hq hq,if_pos rfl,if_pos rfl];grind
theorem orth_ind {n:Nat} {Q:Nat→Nat→Rat} (hQ:Orth n Q) (c:Nat→Rat) (h:∀ k,k<n→lc n c Q k=0):∀ i,i<n→c i=0:=fun q hq=>by
  have e:(sm n fun k=>lc n c Q k*Q q k)=c q:=by
    unfold lc
    have a1:(sm n fun k=>(sm n fun i=>c i*Q i k)*Q q k)=sm n fun i=>c i*(sm n fun k=>Q i k*Q q k):=by
      have a2:(sm n fun k=>(sm n fun i=>c i*Q i k)*Q q k)=sm n fun k=>sm n fun i=>c i*(Q i k*Q q k):=sm_congr fun k _=>by
        rw [← sm_mulr]
        exact sm_congr fun i _=>by grind
      rw [a2,sm_swap]
      exact sm_congr fun i _=>by rw [sm_mul]
    rw [a1,sm_one hq fun i hi hne=>by rw [hQ i q hi hq,if_neg hne,Rat.mul_zero],hQ q q hq hq,if_pos rfl,Rat.mul_one]
  rw [← e]
  exact sm_zero fun k hk=>by rw [h k hk,Rat.zero_mul]
theorem Orth.col {n:Nat} {Q:Nat→Nat→Rat} (hQ:Orth n Q) {A:Nat→Nat→Rat} (x:Rat):∀ p q,p<n→q<n→minusX A x p q=bil n (minusX (cj n Q A) x) (Q p) (Q q):=fun p q hp hq=>by
  have e:bil n (minusX (cj n Q A) x) (Q p) (Q q)=bil n (cj n Q A) (Q p) (Q q)-x*sm n fun i=>Q p i*Q q i:=by
    unfold bil minusX
    have:(sm n fun i=>sm n fun j=>Q p i*(cj n Q A i j-if i=j then x else 0)*Q q j)=sm n fun i=>(sm n fun j=>Q p i*cj n Q A i j*Q q j) + -1*(x*(Q p i*Q q i)):=sm_congr fun i hi=>by
      have a:(sm n fun j=>Q p i*(cj n Q A i j-if i=j then x else 0)*Q q j)=sm n fun j=>Q p i*cj n Q A i j*Q q j + -1*(Q p i*(if i=j then x else 0)*Q q j):=sm_congr fun j _=>by grind
      rw [a,sm_add,sm_mul]
      congr 2
      rw [sm_one hi fun j _ hne=>by rw [if_neg (by omega)];grind,if_pos rfl];grind
    rw [this,sm_add,sm_mul,sm_mul];grind
  rw [e,cj_back hQ hp hq,hQ p q hp hq]
  unfold minusX
  split<;>grind
def tu (n:Nat) (Q:Nat→Nat→Rat) (v:Nat→Rat) (k:Nat):Rat:=sm n fun p=>v p*Q p k
theorem lc_tu {n a:Nat} {Q W:Nat→Nat→Rat} (c:Nat→Rat) (k:Nat):lc a c (fun i=>tu n Q (W i)) k=tu n Q (lc a c W) k:=by
  unfold lc tu
  have e1:(sm a fun i=>c i*sm n fun p=>W i p*Q p k)=sm a fun i=>sm n fun p=>c i*W i p*Q p k:=sm_congr fun i _=>by
    rw [← sm_mul]
    exact sm_congr fun p _=>(Rat.mul_assoc ..).symm
  rw [e1,sm_swap]
  exact sm_congr fun p _=>by rw [sm_mulr]
theorem bil_tu {n:Nat} {Q A:Nat→Nat→Rat} (hQ:Orth n Q) (x:Rat) (v:Nat→Rat):bil n (minusX (cj n Q A) x) (tu n Q v) (tu n Q v)=bil n (minusX A x) v v:=by
  have e:tu n Q v=lc n v Q:=rfl
  rw [e,bil_l]
  show _=sm n fun i=>sm n fun j=>v i*minusX A x i j*v j
  refine sm_congr fun i hi=>?_
  rw [bil_r,← sm_mul]
  refine sm_congr fun j hj=>?_
  rw [← hQ.col x i j hi hj];grind
theorem up_cj {n a:Nat} {Q A:Nat→Nat→Rat} {x:Rat} (hQ:Orth n Q) (h:Up n A x a):Up n (cj n Q A) x a:=by
  obtain ⟨W,h⟩:=h
  refine ⟨fun i=>tu n Q (W i),fun c hc=>?_⟩
  have e:∀ k,k<n→lc a c (fun i=>tu n Q (W i)) k=tu n Q (lc a c W) k:=fun k _=>lc_tu c k
  rw [bil_ext e e,bil_tu hQ]
  exact h c hc
theorem cj_rel {n:Nat} {Q A:Nat→Nat→Rat} (hs:∀ i j,A i j=A j i) (hQ:Orth n Q):Rel n A (cj n Q A):=
  ⟨cj_sym hs,fun k=>cj_ber hQ k,cj_tr hQ 2,fun x b a h=>Sig.cong (cong_of (E:=Q) (hQ.col x) (orth_ind hQ)) h,fun x a h=>up_cj hQ h⟩
def rot (p q:Nat) (c s:Rat) (i j:Nat):Rat:=
  if i=p then (if j=p then c else if j=q then-s else 0) else if i=q then (if j=p then s else if j=q then c else 0) else if i=j then 1 else 0
section
variable {n p q:Nat} {c s:Rat} {X:Nat→Nat→Rat}
theorem rot_col (hpq:p<q) (hq:q<n) (f:Nat→Rat) (j:Nat) (hj:j=p∨j=q):(sm n fun r=>rot p q c s r j*f r)=rot p q c s p j*f p+rot p q c s q j*f q:=
  sm_two hpq hq fun k _ h1 h2=>by
    unfold rot
    rw [if_neg h1,if_neg h2,if_neg (by omega),Rat.zero_mul]
theorem rot_col' (j:Nat) (hj:j<n) (h1:j≠p) (h2:j≠q) (f:Nat→Rat):(sm n fun r=>rot p q c s r j*f r)=f j:=by
  rw [sm_one hj fun k _ hne=>by
    unfold rot
    split
    · exact Rat.zero_mul _
    · split
      · exact Rat.zero_mul _
      · exact Rat.zero_mul _]
  unfold rot
  rw [if_neg h1,if_neg h2,if_pos rfl,Rat.one_mul]
theorem rot_row (hpq:p<q) (hq:q<n) (f:Nat→Rat) (i:Nat) (hi:i=p∨i=q):(sm n fun r=>rot p q c s i r*f r)=rot p q c s i p*f p+rot p q c s i q*f q:=
  sm_two hpq hq fun k _ h1 h2=>by
    unfold rot
    rcases hi with rfl | rfl
    · rw [if_pos rfl,if_neg h1,if_neg h2,Rat.zero_mul]
    · rw [if_neg (by omega),if_pos rfl,if_neg h1,if_neg h2,Rat.zero_mul]
theorem rot_row' (i:Nat) (hi:i<n) (h1:i≠p) (h2:i≠q) (f:Nat→Rat):(sm n fun r=>rot p q c s i r*f r)=f i:=by
  rw [sm_one hi fun k _ hne=>by
    unfold rot
    rw [if_neg h1,if_neg h2,if_neg (by omega),Rat.zero_mul]]
  unfold rot
  rw [if_neg h1,if_neg h2,if_pos rfl,Rat.one_mul]
theorem rot_pp:rot p q c s p p=c:=by unfold rot;rw [if_pos rfl,if_pos rfl]
theorem rot_pq (h:p<q):rot p q c s p q = - s:=by unfold rot;rw [if_pos rfl,if_neg (by omega),if_pos rfl]
theorem rot_qp (h:p<q):rot p q c s q p=s:=by unfold rot;rw [if_neg (by omega),if_pos rfl,if_pos rfl]
theorem rot_qq (h:p<q):rot p q c s q q=c:=by unfold rot;rw [if_neg (by omega),if_pos rfl,if_neg (by omega),if_pos rfl]
theorem rot_orth (hpq:p<q) (hq:q<n) (h1:c*c+s*s=1):Orth n (rot p q c s):=fun a b ha hb=>by
  by_cases e1:a=p∨a=q
  · rw [rot_row hpq hq _ a e1]
    rcases e1 with rfl | rfl
    · rw [rot_pp,rot_pq hpq]
      by_cases b1:b=a
      · subst b1;rw [rot_pp,rot_pq hpq,if_pos rfl];grind
      · by_cases b2:b=q
        · subst b2;rw [rot_qp hpq,rot_qq hpq,if_neg (by omega)];grind
        · unfold rot;rw [if_neg b1,if_neg b2,if_neg b1,if_neg b1,if_neg b2,if_neg b2,if_neg (by omega)];grind
    · rw [rot_qp hpq,rot_qq hpq]
      by_cases b1:b=p
      · subst b1;rw [rot_pp,rot_pq hpq,if_neg (by omega)];grind
      · by_cases b2:b=a
        · subst b2;rw [rot_qp hpq,rot_qq hpq,if_pos rfl];grind
        · unfold rot;rw [if_neg b1,if_neg b2,if_neg b1,if_neg b1,if_neg b2,if_neg b2,if_neg (by omega)];grind
  · rw [rot_row' a ha (by omega) (by omega)]
    unfold rot
    by_cases b1:b=p
    · rw [if_pos b1,if_neg (by omega),if_neg (by omega),if_neg (by omega)]
    · rw [if_neg b1]
      by_cases b2:b=q
      · rw [if_pos b2,if_neg (by omega),if_neg (by omega),if_neg (by omega)]
      · rw [if_neg b2]
        by_cases b3:a=b
        · rw [if_pos b3,if_pos b3.symm]
        · rw [if_neg b3,if_neg (fun h=>b3 h.symm)]
theorem cj_two (i j:Nat) (Q:Nat→Nat→Rat):cj n Q X i j=sm n fun r=>Q r i*sm n fun t=>Q t j*X r t:=by
  unfold cj
  refine sm_congr fun r _=>?_
  rw [← sm_mul]
  exact sm_congr fun t _=>by grind
theorem rot_on (hpq:p<q) (hq:q<n) {i:Nat} (hi:i<n) (h1:i≠p) (h2:i≠q):cj n (rot p q c s) X i i=X i i:=by
  rw [cj_two,rot_col' i hi h1 h2,rot_col' i hi h1 h2]
theorem rot_in (hpq:p<q) (hq:q<n) (hs:X q p=X p q) :
    cj n (rot p q c s) X p p=c*(c*X p p+s*X p q)+s*(c*X p q+s*X q q)∧cj n (rot p q c s) X q q = - s*(- s*X p p+c*X p q)+c*(- s*X p q+c*X q q) ∧
    cj n (rot p q c s) X p q=c*(- s*X p p+c*X p q)+s*(- s*X p q+c*X q q):=by
  refine ⟨?_,?_,?_⟩
  · rw [cj_two,rot_col hpq hq _ p (.inl rfl),rot_col hpq hq _ p (.inl rfl),rot_col hpq hq _ p (.inl rfl),rot_pp,rot_qp hpq,hs]
  · rw [cj_two,rot_col hpq hq _ q (.inr rfl),rot_col hpq hq _ q (.inr rfl),rot_col hpq hq _ q (.inr rfl),rot_pq hpq,rot_qq hpq,hs]
  · rw [cj_two,rot_col hpq hq _ p (.inl rfl),rot_col hpq hq _ q (.inr rfl),rot_col hpq hq _ q (.inr rfl),rot_pp,rot_qp hpq,rot_pq hpq,rot_qq hpq,hs]
end
theorem plane {a b h c s a' b' h':Rat} (h1:c*c+s*s=1) (ea:a'=c*(c*a+s*h)+s*(c*h+s*b)) (eb:b' = - s*(- s*a+c*h)+c*(- s*h+c*b)) (eh:h'=c*(- s*a+c*h)+s*(- s*h+c*b)) :
    a'*a'+b'*b'+2*(h'*h')=a*a+b*b+2*(h*h):=by
  have t:a'+b'=(c*c+s*s)*(a+b):=by rw [ea,eb];grind
  have d:a'*b'-h'*h'=(c*c+s*s)*(c*c+s*s)*(a*b-h*h):=by rw [ea,eb,eh];grind
  rw [h1] at t d
  have:a'*a'+b'*b'+2*(h'*h')=(a'+b')*(a'+b')-2*(a'*b'-h'*h'):=by grind
  rw [this,t,d];grind
theorem prod_le {g y K:Rat} (h1 : - K≤g) (h2:g≤K) (h3 : -2≤y) (h4:y≤2):g*y≤2*K:=by
  have hK:0≤K:=by grind
  rcases Rat.le_total (a:=0) (b:=y) with h | h
  · have a:=Rat.mul_le_mul_of_nonneg_left h2 h
    have b:=Rat.mul_le_mul_of_nonneg_left h4 hK
    grind
  · have a:=Rat.mul_le_mul_of_nonneg_left h1 (show 0 ≤ - y by grind)
    have b:=Rat.mul_le_mul_of_nonneg_left (show-y≤2 by grind) hK
    grind
def pT (g t:Rat):Rat:=1-6*(t*t)+t*t*(t*t)-2*(g*(t-t*(t*t)))
theorem pT_step {g K a b:Rat} (h1 : - K≤g) (h2:g≤K) (ha:0≤a) (hab:a≤b) (hb:b≤1):pT g a-pT g b≤(b-a)*(12+4*K):=by
  have e:pT g a-pT g b=(b-a)*(6*(a+b)-(a+b)*(a*a+b*b)+2*(g*(1-(a*a+a*b+b*b)))):=by unfold pT;grind
  rw [e]
  refine Rat.mul_le_mul_of_nonneg_left ?_ (by grind)
  have n1:0≤a*a:=sq_nonneg a
  have n2:0≤b*b:=sq_nonneg b
  have n3:0≤a*b:=Rat.mul_nonneg ha (by grind)
  have n4:0≤(a+b)*(a*a+b*b):=Rat.mul_nonneg (by grind) (by grind)
  have u1:a*a≤1:=by
    have:=Rat.mul_le_mul_of_nonneg_left (show a≤1 by grind) ha
    grind
  have u2:b*b≤1:=by
    have:=Rat.mul_le_mul_of_nonneg_left hb (show 0≤b by grind)
    grind
  have u3:a*b≤1:=by
    have:=Rat.mul_le_mul_of_nonneg_left hb ha
    grind
  have:=prod_le h1 h2 (y:=1-(a*a+a*b+b*b)) (by grind) (by grind)
  grind
theorem nat_ge (x:Rat):∃ N:Nat,0<N∧x≤(N:Rat):=by
  refine ⟨x.ceil.toNat+1,by omega,?_⟩
  have h1:x≤(x.ceil:Rat):=Rat.le_ceil
  have h2:(x.ceil:Rat)≤(((x.ceil.toNat+1:Nat):Int):Rat):=Rat.intCast_le_intCast.2 (by omega)
  exact Rat.le_trans h1 h2
theorem first_low (p:Nat→Prop) [DecidablePred p]:∀ N:Nat,¬ p 0→p N→∃ i,i<N ∧ ¬ p i∧p (i+1)
  | 0,h0,hN=>absurd hN h0
  | N+1,h0,hN=>by
    by_cases h:p N
    · obtain ⟨i,a,b⟩:=first_low p N h0 h
      exact ⟨i,by omega,b⟩
    · exact ⟨N,by omega,h,hN⟩
theorem pT_small (g:Rat):∃ t:Rat,0≤t∧t≤1 ∧ -(1/2)≤pT g t∧pT g t≤1/2:=by
  obtain ⟨K,k1,k2⟩:∃ K:Rat, - K≤g∧g≤K:=by
    rcases Rat.le_total (a:=0) (b:=g) with h | h
    · exact ⟨g,by grind,Rat.le_refl⟩
    · exact ⟨- g,by grind,by grind⟩
  obtain ⟨N,hN,hK⟩:=nat_ge (12+4*K)
  have hNp:(0:Rat)<(N:Rat):=by
    obtain ⟨m,rfl⟩:∃ m,N=m+1:=⟨N-1,by omega⟩
    exact cast_pos m
  have hNi:(N:Rat)*(N:Rat)⁻¹=1:=Rat.mul_inv_cancel _ (by grind)
  have hip:(0:Rat)<(N:Rat)⁻¹:=Rat.inv_pos.2 hNp
  generalize hv:(N:Rat)⁻¹=v at *
  obtain ⟨i,hi,h1,h2⟩:=first_low (fun i=>pT g ((i:Rat)*v)≤1/2) N (by
    show ¬ pT g (((0:Nat):Rat)*v)≤1/2
    have h0:((0:Nat):Rat)=0:=rfl
    rw [h0,Rat.zero_mul]
    unfold pT;grind) (by
    show pT g ((N:Rat)*v)≤1/2
    rw [hNi]
    unfold pT;grind)
  have h1 : ¬ pT g ((i:Rat)*v)≤1/2:=h1
  have h2:pT g (((i+1:Nat):Rat)*v)≤1/2:=h2
  have hi1:((i+1:Nat):Rat)=(i:Rat)+1:=Rat.natCast_add i 1
  have hi0:(0:Rat)≤(i:Rat):=by have:=Rat.natCast_le_natCast (a:=0) (b:=i);exact this.2 (by omega)
  have hiN:((i+1:Nat):Rat)≤(N:Rat):=Rat.natCast_le_natCast.2 (by omega)
  have b0:0≤(i:Rat)*v:=Rat.mul_nonneg hi0 (by grind)
  have b1:((i+1:Nat):Rat)*v≤1:=by
    have:=Rat.mul_le_mul_of_nonneg_left hiN (show 0≤v by grind)
    grind
  have st:=pT_step k1 k2 b0 (b:=((i+1:Nat):Rat)*v) (by rw [hi1];grind) b1
  have e:((i+1:Nat):Rat)*v-(i:Rat)*v=v:=by rw [hi1];grind
  rw [e] at st
  have:=Rat.mul_le_mul_of_nonneg_left hK (show 0≤v by grind)
  exact ⟨((i+1:Nat):Rat)*v,by rw [hi1];grind,b1,by grind,h2⟩
theorem turn (a b h:Rat) (hh:h≠0):∃ c s:Rat,c*c+s*s=1∧4*((c*(- s*a+c*h)+s*(- s*h+c*b))*(c*(- s*a+c*h)+s*(- s*h+c*b)))≤h*h:=by
  obtain ⟨t,h0,h1,l,u⟩:=pT_small ((a-b)*h⁻¹)
  have hw:(0:Rat)<1+t*t:=by have:=sq_nonneg t;grind
  have hwi:(1+t*t)*(1+t*t)⁻¹=1:=Rat.mul_inv_cancel _ (by grind)
  have hip:(0:Rat)<(1+t*t)⁻¹:=Rat.inv_pos.2 hw
  have hi1:(1+t*t)⁻¹≤1:=by
    have h1:(1:Rat)≤1+t*t:=by have:=sq_nonneg t;grind
    have:=Rat.mul_le_mul_of_nonneg_left h1 (show 0≤(1+t*t)⁻¹ by grind)
    grind
  have hhi:h*h⁻¹=1:=Rat.mul_inv_cancel _ hh
  generalize (1+t*t)⁻¹=w at *
  refine ⟨(1-t*t)*w,2*t*w,?_,?_⟩
  · have:(1-t*t)*w*((1-t*t)*w)+2*t*w*(2*t*w)=((1+t*t)*w)*((1+t*t)*w):=by grind
    rw [this,hwi];grind
  · have e:((1-t*t)*w*(- (2*t*w)*a+(1-t*t)*w*h)+2*t*w*(- (2*t*w)*h+(1-t*t)*w*b))=w*w*(h*pT ((a-b)*h⁻¹) t):=by
      have g1:h*((a-b)*h⁻¹*(t-t*(t*t)))=(a-b)*(t-t*(t*t)):=by
        have:h*((a-b)*h⁻¹*(t-t*(t*t)))=(h*h⁻¹)*((a-b)*(t-t*(t*t))):=by grind
        rw [this,hhi,Rat.one_mul]
      have g2:h*pT ((a-b)*h⁻¹) t=h*(1-6*(t*t)+t*t*(t*t))-2*(h*((a-b)*h⁻¹*(t-t*(t*t)))):=by unfold pT;grind
      rw [g2,g1];grind
    rw [e]
    generalize pT ((a-b)*h⁻¹) t=P at *
    have p1:4*(P*P)≤1:=by
      have:0≤(1/2-P)*(P+1/2):=Rat.mul_nonneg (by grind) (by grind)
      grind
    have w1:w*w≤1:=by
      have:=Rat.mul_le_mul_of_nonneg_left hi1 (show 0≤w by grind)
      grind
    have w2:(w*w)*(w*w)≤1:=by
      have:=Rat.mul_le_mul_of_nonneg_left w1 (sq_nonneg w)
      grind
    have h2:=sq_nonneg h
    have q1:4*(P*P)*(h*h)≤h*h:=by
      have:=Rat.mul_le_mul_of_nonneg_left p1 h2
      grind
    have q0:0≤4*(P*P)*(h*h):=Rat.mul_nonneg (Rat.mul_nonneg (by grind) (sq_nonneg P)) h2
    have q2:=Rat.mul_le_mul_of_nonneg_left w2 q0
    have e3:4*(w*w*(h*P)*(w*w*(h*P)))=4*(P*P)*(h*h)*((w*w)*(w*w)):=by grind
    rw [e3];grind
def dg (n:Nat) (X:Nat→Nat→Rat):Rat:=sm n fun i=>X i i*X i i
theorem tr_two {n:Nat} {X:Nat→Nat→Rat} (hs:∀ i j,X i j=X j i):tr X n 2=sm n fun i=>sm n fun l=>X i l*X i l:=by
  show (sm n fun i=>pw X n 2 i i)=_
  refine sm_congr fun i hi=>?_
  show (sm n fun l=>X i l*pw X n 1 l i)=_
  refine sm_congr fun l hl=>?_
  have e:pw X n 1 l i=X l i:=del_r _ hi
  rw [e,hs l i]
theorem sm_ge {f:Nat→Rat} {n i:Nat} (h:∀ k,k<n→0≤f k) (hi:i<n):f i≤sm n f:=by
  induction n with
  | zero=>omega
  | succ n ih=>
    have h0:=sm_nonneg (f:=f) (n:=n) fun k hk=>h k (by omega)
    have h1:=h n (by omega)
    unfold sm
    by_cases c:i=n
    · subst c;grind
    · have:=ih (fun k hk=>h k (by omega)) (by omega)
      grind
theorem sm_le {f g:Nat→Rat}:∀ {n:Nat},(∀ k,k<n→f k≤g k)→sm n f≤sm n g
  | 0,_=>Rat.le_refl
  | n+1,h=>by
    have a:=sm_le (n:=n) fun k hk=>h k (by omega)
    have b:=h n (by omega)
    unfold sm;grind
theorem ent_two {n i j:Nat} {X:Nat→Nat→Rat} (hs:∀ i j,X i j=X j i) (hi:i<n) (hj:j<n):X i j*X i j≤tr X n 2:=by
  rw [tr_two hs]
  refine Rat.le_trans ?_ (sm_ge (f:=fun i=>sm n fun l=>X i l*X i l) (fun k _=>sm_nonneg fun l _=>sq_nonneg _) hi)
  exact sm_ge (f:=fun l=>X i l*X i l) (fun l _=>sq_nonneg _) hj
theorem dg_le {n:Nat} {X:Nat→Nat→Rat} (hs:∀ i j,X i j=X j i):dg n X≤tr X n 2:=by
  rw [tr_two hs]
  exact sm_le fun i hi=>sm_ge (f:=fun l=>X i l*X i l) (fun l _=>sq_nonneg _) hi
theorem dg_turn {n p q:Nat} {X Y:Nat→Nat→Rat} (hpq:p<q) (hq:q<n) (h:∀ i,i<n→i≠p→i≠q→Y i i=X i i):dg n Y=dg n X+((Y p p*Y p p+Y q q*Y q q)-(X p p*X p p+X q q*X q q)):=by
  have e:dg n Y=dg n X+sm n fun i=>Y i i*Y i i-X i i*X i i:=by
    unfold dg
    rw [← sm_add]
    exact sm_congr fun i _=>by grind
  rw [e,sm_two hpq hq fun i hi h1 h2=>by rw [h i hi h1 h2];grind]
  grind
theorem jac {n:Nat} {e:Rat} (he:0<e):∀ (N:Nat) (X:Nat→Nat→Rat),(∀ i j,X i j=X j i)→tr X n 2-dg n X<(N:Rat)*e→∃ Y,Rel n X Y∧∀ i j,i<n→j<n→i≠j→Y i j*Y i j≤e
  | 0,X,hs,h=>by
    have:=dg_le (n:=n) hs
    have h0:((0:Nat):Rat)=0:=rfl
    rw [h0] at h
    grind
  | N+1,X,hs,h=>by
    by_cases c:∃ p q,p<q∧q<n∧e<X p q*X p q
    · obtain ⟨p,q,hpq,hq,hc⟩:=c
      have hh:X p q≠0:=fun h0=>by rw [h0] at hc;grind
      obtain ⟨c,s,h1,h2⟩:=turn (X p p) (X q q) (X p q) hh
      have hr:=cj_rel (n:=n) hs (rot_orth (c:=c) (s:=s) hpq hq h1)
      obtain ⟨ea,eb,eh⟩:=rot_in (n:=n) (c:=c) (s:=s) hpq hq (hs q p)
      have pl:=plane h1 ea eb eh
      have dt:=dg_turn (Y:=cj n (rot p q c s) X) hpq hq fun i hi g1 g2=>rot_on hpq hq hi g1 g2
      rw [← eh] at h2
      have hN:((N+1:Nat):Rat)=(N:Rat)+1:=Rat.natCast_add N 1
      rw [hN] at h
      generalize cj n (rot p q c s) X=Z at *
      obtain ⟨Y,y1,y2⟩:=jac he N Z hr.sym (by
        rw [hr.two,dt]
        grind)
      exact ⟨Y,hr.trans y1,y2⟩
    · refine ⟨X,Rel.refl hs,fun i j hi hj hne=>?_⟩
      refine Rat.not_lt.1 fun hl=>c ?_
      rcases Nat.lt_or_ge i j with g | g
      · exact ⟨i,j,g,hj,hl⟩
      · exact ⟨j,i,by omega,hi,by rw [hs j i];exact hl⟩
theorem jacobi {n:Nat} {e:Rat} (he:0<e) {A:Nat→Nat→Rat} (hs:∀ i j,A i j=A j i):∃ Y,Rel n A Y∧∀ i j,i<n→j<n→i≠j→Y i j*Y i j≤e:=by
  obtain ⟨N,_,hN⟩:=nat_ge ((tr A n 2-dg n A)*e⁻¹+1)
  refine jac he N A hs ?_
  have h1:e⁻¹*e=1:=Rat.inv_mul_cancel _ (by grind)
  have h2:=Rat.mul_le_mul_of_nonneg_left hN (show 0≤e by grind)
  have h3:e*((tr A n 2-dg n A)*e⁻¹+1)=(tr A n 2-dg n A)*(e⁻¹*e)+e:=by grind
  rw [h3,h1] at h2
  grind
end Go.Ine
/-
  Above a level: spaces on which a form is above 0, turned; diagonals; near a diagonal. No condition.
-/
namespace Go.Ine
theorem up_diag {n a:Nat} {D:Nat→Nat→Rat} {x:Rat} (hD:∀ i j,i<n→j<n→i≠j→D i j=0) (h:Up n D x a):a≤cntP n fun i=>D i i-x:=by
  refine Nat.le_of_not_lt fun hlt=>?_
  obtain ⟨W,h⟩:=h
  obtain ⟨c,hc,he⟩:=homog (((List.range n).filter fun i=>decide (0<D i i-x)).map fun i k=>W k i) a (by rw [List.length_map];exact hlt)
  have hp:=h c hc
  have z:∀ i,i<n→0<D i i-x→lc a c W i=0:=fun i hi hd=>by
    have:=he (fun k=>W k i) (List.mem_map.2 ⟨i,List.mem_filter.2 ⟨List.mem_range.2 hi,decide_eq_true hd⟩,rfl⟩)
    unfold lc
    rw [← this]
    exact sm_congr fun k _=>Rat.mul_comm ..
  have e:bil n (minusX D x) (lc a c W) (lc a c W)=sm n fun i=>(D i i-x)*(lc a c W i*lc a c W i):=by
    unfold bil
    refine sm_congr fun i hi=>?_
    rw [sm_one hi fun j hj hne=>by
      have:minusX D x i j=0:=by unfold minusX;rw [hD i j hi hj (by omega),if_neg (by omega)];grind
      rw [this];grind]
    unfold minusX
    rw [if_pos rfl];grind
  rw [e] at hp
  have:(sm n fun i=>(D i i-x)*(lc a c W i*lc a c W i))≤0:=by
    have hz:=sm_le (n:=n) (f:=fun i=>(D i i-x)*(lc a c W i*lc a c W i)) (g:=fun _=>0) fun i hi=>by
      by_cases g:0<D i i-x
      · rw [z i hi g];grind
      · have h1:=sq_nonneg (lc a c W i)
        have h2:0 ≤ - (D i i-x):=by grind
        have h3:=Rat.mul_nonneg h2 h1
        grind
    rw [sm_zero (f:=fun _=>(0:Rat)) fun _ _=>rfl] at hz
    exact hz
  grind
theorem least_pos:∀ (l:List Rat),(∀ x∈l,0<x)→∃ m:Rat,0<m∧∀ x∈l,m≤x
  | [],_=>⟨1,by grind,fun x hx=>by cases hx⟩
  | y::l,h=>by
    obtain ⟨m,h1,h2⟩:=least_pos l fun x hx=>h x (List.mem_cons_of_mem _ hx)
    have hy:=h y (List.mem_cons_self ..)
    rcases Rat.le_total (a:=m) (b:=y) with g | g
    · exact ⟨m,h1,fun x hx=>(List.mem_cons.1 hx).elim (fun e=>by rw [e];exact g) (h2 x)⟩
    · exact ⟨y,hy,fun x hx=>(List.mem_cons.1 hx).elim (fun e=>by rw [e];exact Rat.le_refl) fun e=>Rat.le_trans g (h2 x e)⟩
theorem two_abs (x y g G:Rat) (h1 : - g≤G) (h2:G≤g):x*G*y≤g*(x*x+y*y):=by
  have s1:=sq_nonneg (x-y)
  have s2:=sq_nonneg (x+y)
  have p1:=Rat.mul_nonneg (show 0≤g+G by grind) s1
  have p2:=Rat.mul_nonneg (show 0≤g-G by grind) s2
  have s3:=sq_nonneg x
  have s4:=sq_nonneg y
  have p3:=Rat.mul_nonneg (show 0≤g by grind) (show 0≤x*x+y*y by grind)
  have e1:(g+G)*((x-y)*(x-y))+(g-G)*((x+y)*(x+y))=2*(g*(x*x+y*y))-4*(x*G*y):=by grind
  have e2:0≤2*(g*(x*x+y*y))-4*(x*G*y):=by rw [← e1];grind
  grind
theorem form_le {a:Nat} {G:Nat→Nat→Rat}:∃ K:Rat,0≤K∧∀ c:Nat→Rat,(sm a fun i=>sm a fun j=>c i*G i j*c j)≤K*sm a fun i=>c i*c i:=by
  let g:Rat:=sm a fun i=>sm a fun j=>G i j*G i j+1
  have hg0:∀ i j,0≤G i j*G i j+1:=fun i j=>by have:=sq_nonneg (G i j);grind
  have hg:∀ i j,i<a→j<a → - g≤G i j∧G i j≤g:=fun i j hi hj=>by
    have h1:G i j*G i j+1≤g:=Rat.le_trans (sm_ge (f:=fun j=>G i j*G i j+1) (fun k _=>hg0 i k) hj) (sm_ge (f:=fun i=>sm a fun j=>G i j*G i j+1) (fun k _=>sm_nonneg fun l _=>hg0 k l) hi)
    have s1:=sq_nonneg (G i j-1)
    have s2:=sq_nonneg (G i j+1)
    have s3:=sq_nonneg (G i j)
    constructor<;>grind
  have hgn:0≤g:=sm_nonneg fun i _=>sm_nonneg fun j _=>hg0 i j
  have hcst:∀ (x:Rat) (m:Nat),(sm m fun _=>x)=(m:Rat)*x:=fun x m=>by
    induction m with
    | zero=>
        show (0:Rat)=((0:Nat):Rat)*x
        have h0:((0:Nat):Rat)=0:=rfl
        rw [h0,Rat.zero_mul]
    | succ m ih=>
        unfold sm
        rw [ih,Rat.natCast_add m 1]
        have h1:((1:Nat):Rat)=1:=rfl
        rw [h1];grind
  refine ⟨2*((a:Rat)*g),?_,fun c=>?_⟩
  · have:(0:Rat)≤(a:Rat):=(Rat.natCast_le_natCast (a:=0) (b:=a)).2 (by omega)
    have:=Rat.mul_nonneg this hgn
    grind
  · have e1:(sm a fun i=>sm a fun j=>c i*G i j*c j)≤sm a fun i=>sm a fun j=>g*(c i*c i+c j*c j):=sm_le fun i hi=>sm_le fun j hj=>two_abs _ _ _ _ (hg i j hi hj).1 (hg i j hi hj).2
    refine Rat.le_trans e1 ?_
    have e2:(sm a fun i=>sm a fun j=>g*(c i*c i+c j*c j))=2*((a:Rat)*g)*sm a fun i=>c i*c i:=by
      have a1:∀ i,(sm a fun j=>g*(c i*c i+c j*c j))=g*((a:Rat)*(c i*c i))+g*sm a fun j=>c j*c j:=fun i=>by
        rw [sm_mul,sm_add,hcst];grind
      rw [sm_congr fun i _=>a1 i,sm_add,hcst,sm_mul,sm_mul];grind
    rw [e2];exact Rat.le_refl
theorem sig_up {n b a:Nat} {A:Nat→Nat→Rat} (h:Sig n A b a):∃ x:Rat,0<x∧Up n A x a:=by
  obtain ⟨W,d,hd,_,ha⟩:=h
  let pos:=(List.range n).filter fun i=>decide (0<d i)
  have hlen:pos.length=a:=ha
  have hpos:∀ i,i<a→∃ p,pos[i]?=some p∧p<n∧0<d p:=fun i hi=>by
    have:i<pos.length:=by rw [hlen];exact hi
    have hm:=List.mem_filter.1 (List.getElem_mem this)
    exact ⟨pos[i],List.getElem?_eq_getElem this,List.mem_range.1 hm.1,of_decide_eq_true hm.2⟩
  have hnd:pos.Pairwise (· ≠ ·):=List.Pairwise.filter _ List.nodup_range
  let q:Nat→Nat:=fun i=>pos.getD i 0
  have hq:∀ i,i<a→q i<n∧0<d (q i):=fun i hi=>by
    obtain ⟨p,h1,h2⟩:=hpos i hi
    have:q i=p:=by show pos.getD i 0=p;rw [List.getD_eq_getElem?_getD,h1];rfl
    rw [this];exact h2
  have hinj:∀ i j,i<a→j<a→q i=q j→i=j:=fun i j hi hj he=>by
    have h1:i<pos.length:=by rw [hlen];exact hi
    have h2:j<pos.length:=by rw [hlen];exact hj
    have he:pos.getD i 0=pos.getD j 0:=he
    rw [List.getD_eq_getElem?_getD,List.getD_eq_getElem?_getD,List.getElem?_eq_getElem h1,List.getElem?_eq_getElem h2] at he
    have he:pos[i]=pos[j]:=he
    have hw:=List.pairwise_iff_getElem.1 hnd
    rcases Nat.lt_trichotomy i j with g | g | g
    · exact absurd he (hw i j h1 h2 g)
    · exact g
    · exact absurd he.symm (hw j i h2 h1 g)
  obtain ⟨m,hm0,hm⟩:=least_pos (pos.map d) fun x hx=>by
    obtain ⟨p,hp,rfl⟩:=List.mem_map.1 hx
    exact of_decide_eq_true (List.mem_filter.1 hp).2
  have hmq:∀ i,i<a→m≤d (q i):=fun i hi=>by
    obtain ⟨p,h1,_⟩:=hpos i hi
    have:q i=p:=by show pos.getD i 0=p;rw [List.getD_eq_getElem?_getD,h1];rfl
    rw [this]
    exact hm _ (List.mem_map.2 ⟨p,List.mem_of_getElem? h1,rfl⟩)
  obtain ⟨K,hK0,hK⟩:=form_le (a:=a) (G:=fun i j=>sm n fun k=>W (q i) k*W (q j) k)
  have hK1:(0:Rat)<K+1:=by grind
  have hi:(K+1)*(K+1)⁻¹=1:=Rat.mul_inv_cancel _ (by grind)
  have hip:0<(K+1)⁻¹:=Rat.inv_pos.2 hK1
  refine ⟨m*(K+1)⁻¹,Rat.mul_pos hm0 hip,fun i=>W (q i),fun c ⟨i0,hi0,hc0⟩=>?_⟩
  have e1:bil n A (lc a c fun i=>W (q i)) (lc a c fun i=>W (q i))=sm a fun i=>d (q i)*(c i*c i):=by
    rw [bil_l]
    refine sm_congr fun i hi=>?_
    rw [bil_r,sm_one hi fun j hj hne=>?_]
    · rw [hd.is _ _ (hq i hi).1 (hq i hi).1,if_pos rfl];grind
    · rw [hd.is _ _ (hq i hi).1 (hq j hj).1,if_neg (fun e=>hne (hinj i j hi hj e).symm)];grind
  have e2:(sm n fun k=>lc a c (fun i=>W (q i)) k*lc a c (fun i=>W (q i)) k)=sm a fun i=>sm a fun j=>c i*(sm n fun k=>W (q i) k*W (q j) k)*c j:=by
    unfold lc
    have a1:(sm n fun k=>(sm a fun i=>c i*W (q i) k)*sm a fun i=>c i*W (q i) k)=sm n fun k=>sm a fun i=>sm a fun j=>(W (q i) k*W (q j) k)*(c i*c j):=sm_congr fun k _=>by
      rw [← sm_mulr]
      refine sm_congr fun i _=>?_
      rw [← sm_mul]
      exact sm_congr fun j _=>by grind
    rw [a1,sm_swap]
    refine sm_congr fun i _=>?_
    rw [sm_swap]
    refine sm_congr fun j _=>?_
    rw [sm_mulr];grind
  have e3:∀ v:Nat→Rat,bil n (minusX A (m*(K+1)⁻¹)) v v=bil n A v v-m*(K+1)⁻¹*sm n fun k=>v k*v k:=fun v=>by
    unfold bil minusX
    have a1:(sm n fun i=>sm n fun j=>v i*(A i j-if i=j then m*(K+1)⁻¹ else 0)*v j)=sm n fun i=>(sm n fun j=>v i*A i j*v j) + -1*(m*(K+1)⁻¹*(v i*v i)):=sm_congr fun i hi=>by
      have a2:(sm n fun j=>v i*(A i j-if i=j then m*(K+1)⁻¹ else 0)*v j)=sm n fun j=>v i*A i j*v j + -1*(v i*(if i=j then m*(K+1)⁻¹ else 0)*v j):=sm_congr fun j _=>by grind
      rw [a2,sm_add,sm_mul]
      congr 2
      rw [sm_one hi fun j _ hne=>by rw [if_neg (by omega)];grind,if_pos rfl];grind
    rw [a1,sm_add,sm_mul,sm_mul];grind
  rw [e3,e1,e2]
  have hk:=hK c
  have hS:0<sm a fun i=>c i*c i:=sm_pos (i:=i0) (fun k _=>sq_nonneg _) hi0 (sq_pos hc0)
  have hle:m*(sm a fun i=>c i*c i)≤sm a fun i=>d (q i)*(c i*c i):=by
    rw [← sm_mul]
    exact sm_le fun i hi=>by
      have:=Rat.mul_le_mul_of_nonneg_left (hmq i hi) (sq_nonneg (c i))
      grind
  generalize (sm a fun i=>c i*c i)=S at *
  generalize (sm a fun i=>sm a fun j=>c i*(sm n fun k=>W (q i) k*W (q j) k)*c j)=F at *
  have hw:0≤m*(K+1)⁻¹:=Rat.le_of_lt (Rat.mul_pos hm0 hip)
  have f1:=Rat.mul_le_mul_of_nonneg_left hk hw
  have f2:m*(K+1)⁻¹*(K*S)=m*S-m*(K+1)⁻¹*S:=by
    have:m*(K+1)⁻¹*(K*S)+m*(K+1)⁻¹*S=m*S*((K+1)*(K+1)⁻¹):=by grind
    rw [hi] at this
    grind
  have f3:0<m*(K+1)⁻¹*S:=Rat.mul_pos (Rat.mul_pos hm0 hip) hS
  grind
end Go.Ine
/-
  Products of factors 1 - d s: changes of sign, with room; what is near stays near. No condition.
-/
namespace Go.Ine
def mulL (d:Rat) (q:Nat→Rat):Nat→Rat
  | 0=>q 0
  | k+1=>q (k+1)-d*q k
def pr:List Rat→Nat→Rat
  | []=>un
  | d::l=>mulL d (pr l)
theorem mulL_comm (d e:Rat) (q:Nat→Rat):mulL d (mulL e q)=mulL e (mulL d q):=by
  funext k
  match k with
  | 0=>rfl
  | 1=>
      show q 1-e*q 0-d*q 0=q 1-d*q 0-e*q 0
      grind
  | k+2=>
      show q (k+2)-e*q (k+1)-d*(q (k+1)-e*q k)=q (k+2)-d*q (k+1)-e*(q (k+1)-d*q k)
      grind
theorem pr_perm {l l':List Rat} (h:l.Perm l'):pr l=pr l':=by
  induction h with
  | nil=>rfl
  | cons x _ ih=>show mulL x (pr _)=mulL x (pr _);rw [ih]
  | swap x y l=>exact mulL_comm y x (pr l)
  | trans _ _ a b=>exact a.trans b
theorem pr_zero:∀ l:List Rat,pr l 0=1
  | []=>rfl
  | d::l=>pr_zero l
theorem pr_far:∀ (l:List Rat) (k:Nat),l.length<k→pr l k=0
  | [],k+1,_=>rfl
  | d::l,k+1,h=>by
    have h:l.length<k:=by simpa using h
    show pr l (k+1)-d*pr l k=0
    rw [pr_far l k h,pr_far l (k+1) (by omega)];grind
theorem pr_zeros:∀ (l:List Rat),(∀ x∈l,x=0)→pr l=un
  | [],_=>rfl
  | d::l,h=>by
    show mulL d (pr l)=un
    rw [h d (List.mem_cons_self ..),pr_zeros l fun x hx=>h x (List.mem_cons_of_mem _ hx)]
    funext k
    cases k with
    | zero=>rfl
    | succ k=>show un (k+1)-0*un k=un (k+1);grind
theorem pr_some:∀ (l z:List Rat),(∀ x∈z,x=0)→∀ k,l.length<k→pr (l++z) k=0
  | [],z,h,k+1,_=>by
    show pr z (k+1)=0
    rw [pr_zeros z h];rfl
  | d::l,z,h,k+1,hk=>by
    have hk:l.length<k:=by simpa using hk
    show pr (l++z) (k+1)-d*pr (l++z) k=0
    rw [pr_some l z h k hk,pr_some l z h (k+1) (by omega)];grind
def dl (D:Nat→Nat→Rat):Nat→List Rat
  | 0=>[]
  | n+1=>D n n::dl D n
theorem ber_dl {D:Nat→Nat→Rat}:∀ {n:Nat},(∀ i j,i<n→j<n→i≠j→D i j=0)→ber D n=pr (dl D n)
  | 0,_=>rfl
  | n+1,h=>by
    have ih:=ber_dl (D:=D) (n:=n) fun i j hi hj=>h i j (by omega) (by omega)
    funext k
    cases k with
    | zero=>rw [ber_zero,pr_zero]
    | succ k=>
      rw [ber_diag fun i hi=>h i n (by omega) (by omega) (by omega),ih]
      show _=pr (dl D n) (k+1)-D n n*pr (dl D n) k
      grind
theorem dl_filter (D:Nat→Nat→Rat) (p:Rat→Bool):∀ n,((dl D n).filter p).length=((List.range n).filter fun i=>p (D i i)).length
  | 0=>rfl
  | n+1=>by
    rw [List.range_succ,List.filter_append,List.length_append,← dl_filter D p n]
    show ((D n n::dl D n).filter p).length=_
    rw [List.filter_cons,List.filter_cons,List.filter_nil]
    cases p (D n n) with
    | true=>simp
    | false=>simp
theorem dl_len (D:Nat→Nat→Rat):∀ n,(dl D n).length=n
  | 0=>rfl
  | n+1=>by show (dl D n).length+1=n+1;rw [dl_len D n]
theorem dl_mem {D:Nat→Nat→Rat}:∀ {n:Nat} {x:Rat},x∈dl D n→∃ i,i<n∧x=D i i
  | n+1,x,h=>by
    rcases List.mem_cons.1 h with rfl | h
    · exact ⟨n,by omega,rfl⟩
    · obtain ⟨i,hi,e⟩:=dl_mem h
      exact ⟨i,by omega,e⟩
def sq (i:Nat):Rat:=if i%2=0 then 1 else -1
theorem sq_succ (i:Nat):sq (i+1) = - sq i:=by
  unfold sq
  by_cases h:i%2=0
  · rw [if_pos h,if_neg (by omega)]
  · rw [if_neg h,if_pos (by omega)];grind
theorem sq_or (i:Nat):sq i=1∨sq i = -1:=by
  unfold sq
  split
  · exact .inl rfl
  · exact .inr rfl
def rp (r:Rat):Nat→Rat
  | 0=>1
  | m+1=>r*rp r m
theorem rp_pos {r:Rat} (h:0<r):∀ m,0<rp r m
  | 0=>by unfold rp;grind
  | m+1=>Rat.mul_pos h (rp_pos h m)
theorem rp_le {r:Rat} (h:0<r) (h1:r≤1):∀ m,rp r m≤1
  | 0=>Rat.le_refl
  | m+1=>by
    have a:=Rat.mul_le_mul_of_nonneg_left (rp_le h h1 m) (show 0≤r by grind)
    unfold rp;grind
theorem seg1 {R d s:Rat} {q:Nat→Rat} {r:Rat} (hR:1≤R) (hr:r*(2*R)=1) (hd0:0≤d) (hd:d≤R) {a:Nat} (ha:s*q a≤0):∀ (M L:Nat) (th:Rat),L+1≤M→0<th→th≤s*q (a+L+1) →
    ∃ j,a<j∧j≤a+L+1∧th*rp r M≤s*mulL d q j
  | 0,L,th,h,_,_=>by omega
  | M+1,L,th,h,h0,h1=>by
    have hr0:0<r:=by
      refine Rat.not_le.1 fun c=>?_
      have:=Rat.mul_le_mul_of_nonneg_left c (show 0≤2*R by grind)
      grind
    have hr2:r*2≤1:=by
      have:=Rat.mul_le_mul_of_nonneg_left hR (show 0≤r*2 by grind)
      grind
    have hrp:=rp_pos hr0 M
    have hrl:=rp_le hr0 (by grind) M
    have ef:s*mulL d q (a+L+1)=s*q (a+L+1)-d*(s*q (a+L)):=by
      show s*(q (a+L+1)-d*q (a+L))=_
      grind
    by_cases c:th≤2*(s*mulL d q (a+L+1))
    · refine ⟨a+L+1,by omega,by omega,?_⟩
      show th*(r*rp r M)≤_
      have p1:=Rat.mul_le_mul_of_nonneg_left hrl (show 0≤th*r by exact Rat.mul_nonneg (by grind) (by grind))
      have p2:=Rat.mul_le_mul_of_nonneg_left hr2 (show 0≤th by grind)
      grind
    · have c2:th<2*(d*(s*q (a+L))):=by grind
      have hy:0<s*q (a+L):=by
        refine Rat.not_le.1 fun g=>?_
        have:=Rat.mul_le_mul_of_nonneg_left g hd0
        grind
      have c3:th<2*(R*(s*q (a+L))):=by
        have:=Rat.mul_le_mul_of_nonneg_left hd (show 0≤s*q (a+L) by grind)
        grind
      have c4:th*r≤s*q (a+L):=by
        have:=Rat.mul_le_mul_of_nonneg_left (show th≤2*(R*(s*q (a+L))) by grind) (show 0≤r by grind)
        have e:r*(2*(R*(s*q (a+L))))=(r*(2*R))*(s*q (a+L)):=by grind
        rw [e,hr] at this
        grind
      cases L with
      | zero=>
        have c4:th*r≤s*q a:=c4
        have:=Rat.mul_pos h0 hr0
        grind
      | succ L=>
        obtain ⟨j,j1,j2,j3⟩:=seg1 hR hr hd0 hd ha M L (th*r) (by omega) (Rat.mul_pos h0 hr0) c4
        refine ⟨j,j1,by omega,?_⟩
        show th*(r*rp r M)≤_
        rw [← Rat.mul_assoc];exact j3
theorem seg2 {d s de:Rat} {q:Nat→Rat} (hde:0<de) (hde1:de≤1) (hd:de≤d):∀ (M L a:Nat) (th:Rat),L+1≤M→0<th→s*q a ≤ - th→0≤s*q (a+L+1) →
    ∃ j,a<j∧j≤a+L+1∧th*rp (de*(1/2)) M≤s*mulL d q j
  | 0,L,a,th,h,_,_,_=>by omega
  | M+1,L,a,th,h,h0,h1,h2=>by
    have hr0:0<de*(1/2):=by grind
    have hrp:=rp_pos hr0 M
    have hrl:=rp_le hr0 (by grind) M
    have ef:s*mulL d q (a+1)=s*q (a+1)-d*(s*q a):=by
      show s*(q (a+1)-d*q a)=_
      grind
    have hdt:de*th≤d*th:=by
      have:=Rat.mul_le_mul_of_nonneg_left hd (show 0≤th by grind)
      grind
    have hdq:d*(s*q a) ≤ - (d*th):=by
      have:=Rat.mul_le_mul_of_nonneg_left h1 (show 0≤d by grind)
      grind
    by_cases c:d*th*(1/2)≤s*mulL d q (a+1)
    · refine ⟨a+1,by omega,by omega,?_⟩
      show th*(de*(1/2)*rp (de*(1/2)) M)≤_
      have p1:=Rat.mul_le_mul_of_nonneg_left hrl (show 0≤th*(de*(1/2)) by exact Rat.mul_nonneg (by grind) (by grind))
      grind
    · have c2:s*q (a+1) ≤ - (th*(de*(1/2))):=by grind
      have hp:=Rat.mul_pos h0 hr0
      cases L with
      | zero=>
        have h2:0≤s*q (a+1):=h2
        grind
      | succ L=>
        obtain ⟨j,j1,j2,j3⟩:=seg2 (d:=d) (s:=s) (q:=q) hde hde1 hd M L (a+1) (th*(de*(1/2))) (by omega) hp c2 (by
          rw [show a+1+L+1=a+(L+1)+1 by omega];exact h2)
        refine ⟨j,by omega,by omega,?_⟩
        show th*(de*(1/2)*rp (de*(1/2)) M)≤_
        rw [← Rat.mul_assoc];exact j3
def Alt (v N:Nat) (c:Nat→Rat) (h:Rat):Prop:=∃ ix:Nat→Nat,ix 0=0∧(∀ i,i<v→ix i<ix (i+1))∧ix v≤N∧∀ i,i≤v→h≤sq i*c (ix i)
theorem pick_nat {P:Nat→Nat→Prop} {n:Nat} (h:∀ i,i<n→∃ j,P i j):∃ f:Nat→Nat,∀ i,i<n→P i (f i):=by
  classical
  refine ⟨fun i=>if h:∃ j,P i j then Classical.choose h else 0,fun i hi=>?_⟩
  have:=h i hi
  show P i (if h:∃ j,P i j then Classical.choose h else 0)
  rw [dif_pos this]
  exact Classical.choose_spec this
theorem inc_le {ix:Nat→Nat} {v:Nat} (h:∀ i,i<v→ix i<ix (i+1)):∀ {i j:Nat},i≤j→j≤v→ix i≤ix j
  | i,0,h1,_=>by
      obtain rfl:i=0:=by omega
      exact Nat.le_refl _
  | i,j+1,h1,h2=>by
    by_cases c:i=j+1
    · rw [c];exact Nat.le_refl _
    · have:=inc_le h (i:=i) (j:=j) (by omega) (by omega)
      have:=h j (by omega)
      omega
theorem alt_step {R de h:Rat} {v N:Nat} (hR:1≤R) (hde:0<de) (hde1:de≤1) (hh:0<h):∃ h':Rat,0<h'∧∀ (q:Nat→Rat) (d:Rat),de≤d→d≤R→(∀ k,N<k→q k=0)→Alt v N q h→Alt (v+1) (N+1) (mulL d q) h':=by
  have hri:(2*R)⁻¹*(2*R)=1:=Rat.inv_mul_cancel _ (by grind)
  have hr0:0<(2*R)⁻¹:=Rat.inv_pos.2 (by grind)
  generalize (2*R)⁻¹=r at *
  have k1:0<h*rp r (N+1):=Rat.mul_pos hh (rp_pos hr0 _)
  have k2:0<h*rp (de*(1/2)) (N+1):=Rat.mul_pos hh (rp_pos (by grind) _)
  obtain ⟨h',p0,p1,p2,p3⟩:∃ h':Rat,0<h'∧h'≤h∧h'≤h*rp r (N+1)∧h'≤h*rp (de*(1/2)) (N+1):=by
    obtain ⟨m,m0,hm⟩:=least_pos [h,h*rp r (N+1),h*rp (de*(1/2)) (N+1)] fun x hx=>by
      simp only [List.mem_cons,List.not_mem_nil,or_false] at hx
      rcases hx with rfl | rfl | rfl
      · exact hh
      · exact k1
      · exact k2
    exact ⟨m,m0,hm _ (by simp),hm _ (by simp),hm _ (by simp)⟩
  refine ⟨h',p0,fun q d hd1 hd2 hq ⟨ix,i0,i1,i2,i3⟩=>?_⟩
  have one:∀ i,i<v+1→∃ j,ix i<j∧(j≤if i<v then ix (i+1) else N+1)∧h'≤sq (i+1)*mulL d q j:=fun i hi=>by
    have hle:ix i≤N:=Nat.le_trans (inc_le i1 (show i≤v by omega) (Nat.le_refl _)) i2
    have hneg:sq (i+1)*q (ix i) ≤ - h:=by
      have:=i3 i (by omega)
      rw [sq_succ];grind
    by_cases c:i<v
    · have hlt:=i1 i c
      have hle2:ix (i+1)≤N:=Nat.le_trans (inc_le i1 (show i+1≤v by omega) (Nat.le_refl _)) i2
      obtain ⟨L,hL⟩:∃ L,ix (i+1)=ix i+L+1:=⟨ix (i+1)-ix i-1,by omega⟩
      have h3:=i3 (i+1) (by omega)
      rw [hL] at h3
      obtain ⟨j,j1,j2,j3⟩:=seg1 (d:=d) (s:=sq (i+1)) (q:=q) (r:=r) hR hri (by grind) hd2 (a:=ix i) (by grind) (N+1) L h (by omega) hh h3
      exact ⟨j,j1,by rw [if_pos c];omega,by grind⟩
    · obtain ⟨L,hL⟩:∃ L,N+1=ix i+L+1:=⟨N-ix i,by omega⟩
      obtain ⟨j,j1,j2,j3⟩:=seg2 (d:=d) (s:=sq (i+1)) (q:=q) hde hde1 hd1 (N+1) L (ix i) h (by omega) hh hneg (by
        rw [← hL,hq (N+1) (by omega)];grind)
      exact ⟨j,j1,by rw [if_neg c];omega,by grind⟩
  obtain ⟨f,hf⟩:=pick_nat one
  refine ⟨fun i=>if i=0 then 0 else f (i-1),rfl,fun i hi=>?_,?_,fun i hi=>?_⟩
  · show (if i=0 then 0 else f (i-1))<(if i+1=0 then 0 else f (i+1-1))
    rw [if_neg (show ¬ i+1=0 by omega),Nat.add_sub_cancel]
    have h1:=hf i hi
    by_cases c:i=0
    · rw [if_pos c];omega
    · rw [if_neg c]
      have h2:=(hf (i-1) (by omega)).2.1
      rw [if_pos (by omega),show i-1+1=i by omega] at h2
      omega
  · show (if v+1=0 then 0 else f (v+1-1))≤N+1
    rw [if_neg (by omega),Nat.add_sub_cancel]
    have h2:=(hf v (by omega)).2.1
    rw [if_neg (by omega)] at h2
    exact h2
  · show h'≤sq i*mulL d q (if i=0 then 0 else f (i-1))
    by_cases c:i=0
    · subst c
      rw [if_pos rfl]
      have:=i3 0 (by omega)
      rw [i0] at this
      exact Rat.le_trans p1 this
    · rw [if_neg c]
      have h2:=(hf (i-1) (by omega)).2.2
      rw [show i-1+1=i by omega] at h2
      exact h2
theorem alt_list {R de:Rat} (hR:1≤R) (hde:0<de) (hde1:de≤1) (r:Nat):∀ p:Nat,∃ h:Rat,0<h∧∀ l rest:List Rat,l.length=p→rest.length=r→(∀ x∈l,de≤x∧x≤R)→Alt p (p+r) (pr (l++rest)) h
  | 0=>⟨1,by grind,fun l rest h1 h2 _=>by
    obtain rfl:l = []:=List.eq_nil_of_length_eq_zero h1
    refine ⟨fun _=>0,rfl,fun i h=>by omega,Nat.zero_le _,fun i hi=>?_⟩
    obtain rfl:i=0:=by omega
    show 1≤sq 0*pr rest 0
    rw [pr_zero]
    show (1:Rat)≤1*1
    grind⟩
  | p+1=>by
    obtain ⟨h,h0,hh⟩:=alt_list hR hde hde1 r p
    obtain ⟨h',g0,g⟩:=alt_step (v:=p) (N:=p+r) hR hde hde1 h0
    refine ⟨h',g0,fun l rest h1 h2 h3=>?_⟩
    match l,h1 with
    | d::l,h1=>
      have h1:l.length=p:=by simpa using h1
      have:=g (pr (l++rest)) d (h3 d (List.mem_cons_self ..)).1 (h3 d (List.mem_cons_self ..)).2 (fun k hk=>pr_far _ k (by rw [List.length_append];omega)) (hh l rest h1 h2 fun x hx=>h3 x (List.mem_cons_of_mem _ hx))
      rw [show p+r+1=p+1+r by omega] at this
      exact this
end Go.Ine
/-
  Characteristic polynomials of symmetric matrices: as many changes of sign as there are signs above 0; nought beyond the rank. No condition.
-/
namespace Go.Ine
def eM (m:Nat):Rat:=(((m+1:Nat):Rat))⁻¹
theorem eM_pos (m:Nat):0<eM m:=Rat.inv_pos.2 (cast_pos m)
theorem eM_one (m:Nat):((m+1:Nat):Rat)*eM m=1:=Rat.mul_inv_cancel _ (by have:=cast_pos m;grind)
theorem eM_small {x:Rat} (h:0<x):∃ m,eM m≤x:=by
  obtain ⟨N,hN,hx⟩:=nat_ge x⁻¹
  refine ⟨N,?_⟩
  have h1:x⁻¹*x=1:=Rat.inv_mul_cancel _ (by grind)
  have h2:=eM_one N
  have h3:=eM_pos N
  have hc:((N+1:Nat):Rat)=(N:Rat)+1:=Rat.natCast_add N 1
  rw [hc] at h2
  have a1:=Rat.mul_le_mul_of_nonneg_left hx (show 0≤x by grind)
  have a2:1≤x*((N:Rat)+1):=by grind
  have a3:=Rat.mul_le_mul_of_nonneg_left a2 (show 0≤eM N by grind)
  have e:eM N*(x*((N:Rat)+1))=x*(((N:Rat)+1)*eM N):=by grind
  rw [e,h2] at a3
  grind
abbrev Bx (x K:Rat):Prop := - K≤x∧x≤K
theorem Bx.mul {x y a b:Rat} (h:Bx x a) (k:Bx y b):Bx (x*y) (a*b):=by
  have p1:=Rat.mul_nonneg (show 0≤a-x by grind) (show 0≤b+y by grind)
  have p2:=Rat.mul_nonneg (show 0≤a+x by grind) (show 0≤b-y by grind)
  have p3:=Rat.mul_nonneg (show 0≤a-x by grind) (show 0≤b-y by grind)
  have p4:=Rat.mul_nonneg (show 0≤a+x by grind) (show 0≤b+y by grind)
  constructor<;>grind
def Nr (f g:Nat→Rat):Prop:=∃ K,0≤K∧∀ m,Bx (f m) K∧Bx (g m) K∧Bx (f m-g m) (K*eM m)
theorem nr_sum {x y a b e:Rat} (h:Bx x (a*e)) (k:Bx y (b*e)) (z:Rat) (hz:z=x+y):Bx z ((a+b)*e):=by
  rw [hz]
  constructor<;>grind
theorem Nr.add {f g f' g':Nat→Rat} (h:Nr f g) (k:Nr f' g'):Nr (fun m=>f m+f' m) fun m=>g m+g' m:=by
  obtain ⟨K,k0,hK⟩:=h
  obtain ⟨L,l0,hL⟩:=k
  refine ⟨K+L,by grind,fun m=>?_⟩
  obtain ⟨a1,a2,a3⟩:=hK m
  obtain ⟨b1,b2,b3⟩:=hL m
  exact ⟨by constructor<;>grind,by constructor<;>grind,nr_sum a3 b3 _ (by grind)⟩
theorem Nr.mul {f g f' g':Nat→Rat} (h:Nr f g) (k:Nr f' g'):Nr (fun m=>f m*f' m) fun m=>g m*g' m:=by
  obtain ⟨K,k0,hK⟩:=h
  obtain ⟨L,l0,hL⟩:=k
  have hKL:=Rat.mul_nonneg k0 l0
  refine ⟨K*L+K*L,by grind,fun m=>?_⟩
  obtain ⟨a1,a2,a3⟩:=hK m
  obtain ⟨b1,b2,b3⟩:=hL m
  have c1:=a1.mul b1
  have c2:=a2.mul b2
  have d1:=a3.mul b1
  have d2:=a2.mul b3
  refine ⟨by constructor<;>grind,by constructor<;>grind,?_⟩
  have e1:K*eM m*L=K*L*eM m:=by grind
  have e2:K*(L*eM m)=K*L*eM m:=by grind
  rw [e1] at d1
  rw [e2] at d2
  exact nr_sum d1 d2 _ (by grind)
theorem Nr.const (c:Rat):Nr (fun _=>c) fun _=>c:=by
  have:∃ K:Rat,0≤K∧Bx c K:=by
    rcases Rat.le_total (a:=0) (b:=c) with h | h
    · exact ⟨c,h,by grind,by grind⟩
    · exact ⟨- c,by grind,by grind,by grind⟩
  obtain ⟨K,h0,h⟩:=this
  refine ⟨K,h0,fun m=>⟨h,h,?_⟩⟩
  have:=Rat.mul_nonneg h0 (Rat.le_of_lt (eM_pos m))
  constructor<;>grind
theorem Nr.neg {f g:Nat→Rat} (h:Nr f g):Nr (fun m => - f m) fun m => - g m:=by
  obtain ⟨K,k0,hK⟩:=h
  refine ⟨K,k0,fun m=>?_⟩
  obtain ⟨a1,a2,a3⟩:=hK m
  exact ⟨by constructor<;>grind,by constructor<;>grind,by constructor<;>grind⟩
theorem Nr.sm {f g:Nat→Nat→Rat}:∀ {n:Nat},(∀ k,k<n→Nr (fun m=>f m k) fun m=>g m k)→Nr (fun m=>Go.Ine.sm n (f m)) fun m=>Go.Ine.sm n (g m)
  | 0,_=>Nr.const 0
  | n+1,h=>(Nr.sm (n:=n) fun k hk=>h k (by omega)).add (h n (by omega))
section
variable {n:Nat} {D Y:Nat→Nat→Nat→Rat}
theorem wC_nr (h:∀ i j,i<n→j<n→Nr (fun m=>D m i j) fun m=>Y m i j) {q:Nat} (hq:q<n):∀ (r i:Nat),i<q→Nr (fun m=>wC (D m) q r i) fun m=>wC (Y m) q r i
  | 0,i,hi=>h i q (by omega) hq
  | r+1,i,hi=>Nr.sm (f:=fun m l=>D m i l*wC (D m) q r l) (g:=fun m l=>Y m i l*wC (Y m) q r l) fun l hl=>(h i l (by omega) (by omega)).mul (wC_nr h hq r l hl)
theorem bS_nr (h:∀ i j,i<n→j<n→Nr (fun m=>D m i j) fun m=>Y m i j) {q:Nat} (hq:q<n):∀ k,Nr (fun m=>bS (D m) q k) fun m=>bS (Y m) q k
  | 0=>Nr.const 1
  | 1=>(h q q hq hq).neg
  | k+2=>(Nr.sm (f:=fun m i=>D m q i*wC (D m) q k i) (g:=fun m i=>Y m q i*wC (Y m) q k i) fun i hi=>(h q i hq (by omega)).mul (wC_nr h hq k i hi)).neg
theorem ber_nr (h:∀ i j,i<n→j<n→Nr (fun m=>D m i j) fun m=>Y m i j):∀ (q k:Nat),q≤n→Nr (fun m=>ber (D m) q k) fun m=>ber (Y m) q k
  | 0,k,_=>Nr.const (un k)
  | q+1,k,hq=>Nr.sm (f:=fun m i=>ber (D m) q i*bS (D m) q (k-i)) (g:=fun m i=>ber (Y m) q i*bS (Y m) q (k-i)) fun i hi=>(ber_nr h q i (by omega)).mul (bS_nr h (by omega) (k-i))
end
theorem nr_all {f g:Nat→Nat→Rat}:∀ N:Nat,(∀ k,k≤N→Nr (fun m=>f m k) fun m=>g m k)→∃ K:Rat,0≤K∧∀ m k,k≤N→Bx (f m k-g m k) (K*eM m)
  | 0,h=>by
    obtain ⟨K,k0,hK⟩:=h 0 (Nat.le_refl _)
    exact ⟨K,k0,fun m k hk=>by
      obtain rfl:k=0:=by omega
      exact (hK m).2.2⟩
  | N+1,h=>by
    obtain ⟨K,k0,hK⟩:=h (N+1) (Nat.le_refl _)
    obtain ⟨L,l0,hL⟩:=nr_all N fun k hk=>h k (by omega)
    refine ⟨K+L,by grind,fun m k hk=>?_⟩
    have e1:=Rat.mul_nonneg k0 (Rat.le_of_lt (eM_pos m))
    have e2:=Rat.mul_nonneg l0 (Rat.le_of_lt (eM_pos m))
    by_cases c:k=N+1
    · subst c
      have:=(hK m).2.2
      constructor<;>grind
    · have:=hL m k (by omega)
      constructor<;>grind
section
variable {n:Nat} {Y:Nat→Nat→Rat} {e:Rat}
def diag (Y:Nat→Nat→Rat) (i j:Nat):Rat:=if i=j then Y i j else 0
def offd (Y:Nat→Nat→Rat) (i j:Nat):Rat:=if i=j then 0 else Y i j
theorem off_le {G:Nat→Nat→Rat} (h:∀ i j,i<n→j<n→Bx (G i j) e) (v:Nat→Rat):(sm n fun i=>sm n fun j=>v i*G i j*v j)≤2*((n:Rat)*e)*sm n fun k=>v k*v k:=by
  have e1:(sm n fun i=>sm n fun j=>v i*G i j*v j)≤sm n fun i=>sm n fun j=>e*(v i*v i+v j*v j):=sm_le fun i hi=>sm_le fun j hj=>two_abs _ _ _ _ (h i j hi hj).1 (h i j hi hj).2
  refine Rat.le_trans e1 ?_
  have hcst:∀ (x:Rat) (m:Nat),(sm m fun _=>x)=(m:Rat)*x:=fun x m=>by
    induction m with
    | zero=>
        show (0:Rat)=((0:Nat):Rat)*x
        have h0:((0:Nat):Rat)=0:=rfl
        rw [h0,Rat.zero_mul]
    | succ m ih=>
        unfold sm
        rw [ih,Rat.natCast_add m 1]
        have h1:((1:Nat):Rat)=1:=rfl
        rw [h1];grind
  have e2:(sm n fun i=>sm n fun j=>e*(v i*v i+v j*v j))=2*((n:Rat)*e)*sm n fun i=>v i*v i:=by
    have a1:∀ i,(sm n fun j=>e*(v i*v i+v j*v j))=e*((n:Rat)*(v i*v i))+e*sm n fun j=>v j*v j:=fun i=>by
      rw [sm_mul,sm_add,hcst];grind
    rw [sm_congr fun i _=>a1 i,sm_add,hcst,sm_mul,sm_mul];grind
  rw [e2];exact Rat.le_refl
theorem bil_split (v:Nat→Rat):bil n Y v v=bil n (diag Y) v v+sm n fun i=>sm n fun j=>v i*offd Y i j*v j:=by
  unfold bil diag offd
  rw [← sm_add]
  refine sm_congr fun i _=>?_
  rw [← sm_add]
  refine sm_congr fun j _=>?_
  split<;>grind
theorem bil_minus (B:Nat→Nat→Rat) (x:Rat) (v:Nat→Rat):bil n (minusX B x) v v=bil n B v v-x*sm n fun k=>v k*v k:=by
  unfold bil minusX
  have a1:(sm n fun i=>sm n fun j=>v i*(B i j-if i=j then x else 0)*v j)=sm n fun i=>(sm n fun j=>v i*B i j*v j) + -1*(x*(v i*v i)):=sm_congr fun i hi=>by
    have a2:(sm n fun j=>v i*(B i j-if i=j then x else 0)*v j)=sm n fun j=>v i*B i j*v j + -1*(v i*(if i=j then x else 0)*v j):=sm_congr fun j _=>by grind
    rw [a2,sm_add,sm_mul]
    congr 2
    rw [sm_one hi fun j _ hne=>by rw [if_neg (by omega)];grind,if_pos rfl];grind
  rw [a1,sm_add,sm_mul,sm_mul];grind
theorem bil_neg (B:Nat→Nat→Rat) (v:Nat→Rat):bil n (fun i j => - B i j) v v = - bil n B v v:=by
  unfold bil
  have a1:(sm n fun i=>sm n fun j=>v i * - B i j*v j)=sm n fun i => -1*sm n fun j=>v i*B i j*v j:=sm_congr fun i _=>by
    rw [← sm_mul]
    exact sm_congr fun j _=>by grind
  rw [a1,sm_mul];grind
theorem offd_bx (h0:0≤e) (h:∀ i j,i<n→j<n→i≠j→Bx (Y i j) e):∀ i j,i<n→j<n→Bx (offd Y i j) e:=fun i j hi hj=>by
  unfold offd
  split
  · constructor<;>grind
  · exact h i j hi hj (by assumption)
theorem off_ge {G:Nat→Nat→Rat} (h:∀ i j,i<n→j<n→Bx (G i j) e) (v:Nat→Rat) : - (2*((n:Rat)*e)*sm n fun k=>v k*v k)≤sm n fun i=>sm n fun j=>v i*G i j*v j:=by
  have:=off_le (G:=fun i j => - G i j) (e:=e) (fun i j hi hj=>by have:=h i j hi hj;constructor<;>grind) v
  have e1:(sm n fun i=>sm n fun j=>v i * - G i j*v j) = -1*sm n fun i=>sm n fun j=>v i*G i j*v j:=by
    rw [← sm_mul]
    refine sm_congr fun i _=>?_
    rw [← sm_mul]
    exact sm_congr fun j _=>by grind
  rw [e1] at this
  grind
theorem up_near {x:Rat} {a:Nat} (h0:0≤e) (h:∀ i j,i<n→j<n→i≠j→Bx (Y i j) e) (hu:Up n Y x a):a≤cntP n fun i=>Y i i-(x-2*((n:Rat)*e)):=by
  have hD:Up n (diag Y) (x-2*((n:Rat)*e)) a:=by
    obtain ⟨W,hW⟩:=hu
    refine ⟨W,fun c hc=>?_⟩
    have:=hW c hc
    rw [bil_minus,bil_split] at this
    rw [bil_minus]
    have l:=off_le (offd_bx h0 h) (lc a c W)
    grind
  have:=up_diag (fun i j _ _ hne=>by unfold diag;rw [if_neg hne]) hD
  refine Nat.le_trans this (Nat.le_of_eq (cntP_congr fun k _=>?_))
  unfold diag
  rw [if_pos rfl]
theorem sig_minus (x:Rat):Sig n (minusX (diag Y) x) (cntN n fun i=>Y i i-x) (cntP n fun i=>Y i i-x):=by
  refine (Sig.diag n fun i=>Y i i-x).ext fun i j _ _=>?_
  unfold minusX diag
  by_cases c:i=j
  · subst c;rw [if_pos rfl,if_pos rfl,if_pos rfl]
  · rw [if_neg c,if_neg c,if_neg c];grind
theorem near_above {b a:Nat} (h0:0≤e) (h:∀ i j,i<n→j<n→i≠j→Bx (Y i j) e) (hs:Sig n Y b a):(cntP n fun i=>Y i i-2*((n:Rat)*e))≤a:=by
  refine Sig.mono (sig_minus (Y:=Y) (2*((n:Rat)*e))).neg hs.neg fun v=>?_
  rw [bil_neg,bil_neg,bil_minus,bil_split (Y:=Y)]
  have l:=off_ge (offd_bx h0 h) v
  grind
theorem near_below {b a:Nat} (h0:0≤e) (h:∀ i j,i<n→j<n→i≠j→Bx (Y i j) e) (hs:Sig n Y b a):(cntN n fun i=>Y i i - - (2*((n:Rat)*e)))≤b:=by
  refine Sig.mono (sig_minus (Y:=Y) (- (2*((n:Rat)*e)))) hs fun v=>?_
  rw [bil_minus,bil_split (Y:=Y)]
  have l:=off_le (offd_bx h0 h) v
  grind
end
theorem bx_of_sq {x e:Rat} (he:0≤e) (h:x*x≤e*e):Bx x e:=by
  have key:∀ y:Rat,y*y≤e*e→y≤e:=fun y hy=>by
    refine Rat.not_lt.1 fun c=>?_
    have p1:=Rat.mul_nonneg he (show 0≤y-e by grind)
    have p2:=Rat.mul_pos (show 0<y-e by grind) (show 0<y by grind)
    grind
  have a:=key x h
  have b:=key (- x) (by grind)
  constructor<;>grind
end Go.Ine
/-
  Characteristic polynomials of symmetric matrices: as many changes of sign as there are signs above 0; nought beyond the rank. No condition.
-/
namespace Go.Ine
theorem filter_mono {p q:Nat→Bool}:∀ (l:List Nat),(∀ i∈l,p i=true→q i=true)→(l.filter p).length≤(l.filter q).length
  | [],_=>Nat.le_refl _
  | x::l,h=>by
    have ih:=filter_mono l fun i hi=>h i (List.mem_cons_of_mem _ hi)
    have hx:=h x (List.mem_cons_self ..)
    rw [List.filter_cons,List.filter_cons]
    cases hp:p x with
    | true=>rw [hx hp,if_pos rfl,if_pos rfl];simpa using ih
    | false=>
      rw [if_neg (by decide)]
      split
      · simp;omega
      · exact ih
theorem filter_or {p q r:Nat→Bool}:∀ (l:List Nat),(∀ i∈l,p i=true→q i=true∨r i=true)→(l.filter p).length≤(l.filter q).length+(l.filter r).length
  | [],_=>Nat.le_refl _
  | x::l,h=>by
    have ih:=filter_or l fun i hi=>h i (List.mem_cons_of_mem _ hi)
    have hx:=h x (List.mem_cons_self ..)
    rw [List.filter_cons,List.filter_cons,List.filter_cons]
    cases hp:p x with
    | true=>
      rw [if_pos rfl]
      rcases hx hp with g | g
      · rw [g,if_pos rfl]
        split<;>simp<;>omega
      · rw [g,if_pos (rfl:true=true)]
        split<;>simp<;>omega
    | false=>
      rw [if_neg (by decide)]
      split<;>split<;>simp<;>omega
def cutD (Y:Nat→Nat→Rat) (t:Rat) (i j:Nat):Rat:=if i=j then (if-t≤Y i i∧Y i i≤t then 0 else Y i i) else 0
theorem lim_zero {c K:Rat} (hK:0≤K) (h:∀ m,Bx (0-c) (K*eM m)):c=0:=by
  have key:∀ y:Rat,(∀ m,y≤K*eM m)→y≤0:=fun y hy=>by
    refine Rat.not_lt.1 fun hp=>?_
    have hK1:(0:Rat)<K+1:=by grind
    have hi:(K+1)*(K+1)⁻¹=1:=Rat.mul_inv_cancel _ (by grind)
    have hip:0<(K+1)⁻¹:=Rat.inv_pos.2 hK1
    obtain ⟨m,hm⟩:=eM_small (Rat.mul_pos hp (Rat.mul_pos hip (show (0:Rat)<1/2 by grind)))
    have h1:=hy m
    have h2:=Rat.mul_le_mul_of_nonneg_left hm (show 0≤K+1 by grind)
    have e:(K+1)*(y*((K+1)⁻¹*(1/2)))=y*(1/2)*((K+1)*(K+1)⁻¹):=by grind
    rw [e,hi] at h2
    have:=eM_pos m
    grind
  have a:=key c fun m=>by have:=(h m).1;grind
  have b:=key (- c) fun m=>by have:=(h m).2;grind
  grind
theorem char_alt {n b a:Nat} {A:Nat→Nat→Rat} (hs:∀ i j,A i j=A j i) (h:Sig n A b a) :
    (∃ ix:Nat→Nat,(∀ i,i<a→ix i<ix (i+1))∧ix a≤n∧∀ i,i≤a→0<sq i*ber A n (ix i))∧∀ k,a+b<k→ber A n k=0:=by
  obtain ⟨x,hx0,hup⟩:=sig_up h
  have han:a≤n:=by
    obtain ⟨W,d,_,_,rfl⟩:=h
    have:=List.length_filter_le (fun i=>decide (0<d i)) (List.range n)
    rw [List.length_range] at this
    exact this
  have hY:∀ m,∃ Y,Rel n A Y∧∀ i j,i<n→j<n→i≠j→Y i j*Y i j≤eM m*eM m:=fun m=>jacobi (Rat.mul_pos (eM_pos m) (eM_pos m)) hs
  obtain ⟨Y,hYm⟩:∃ Y:Nat→Nat→Nat→Rat,∀ m,Rel n A (Y m)∧∀ i j,i<n→j<n→i≠j→Y m i j*Y m i j≤eM m*eM m:=⟨fun m=>Classical.choose (hY m),fun m=>Classical.choose_spec (hY m)⟩
  clear hY
  have hoff:∀ m i j,i<n→j<n→i≠j→Bx (Y m i j) (eM m):=fun m i j hi hj hne=>bx_of_sq (Rat.le_of_lt (eM_pos m)) ((hYm m).2 i j hi hj hne)
  have hT0:0≤tr A n 2:=by
    rw [tr_two hs]
    exact sm_nonneg fun i _=>sm_nonneg fun l _=>sq_nonneg _
  generalize hT:tr A n 2=T at *
  have hall:∀ m i j,i<n→j<n→Bx (Y m i j) (T+1):=fun m i j hi hj=>bx_of_sq (by grind) (by
    have h1:=ent_two (hYm m).1.sym hi hj
    rw [(hYm m).1.two,hT] at h1
    have:=sq_nonneg T
    grind)
  have hn0:(0:Rat)≤(n:Rat):=(Rat.natCast_le_natCast (a:=0) (b:=n)).2 (by omega)
  generalize hN:(n:Rat)=N at *
  let D:Nat→Nat→Nat→Rat:=fun m=>cutD (Y m) (2*(N*eM m))
  have hnr:∀ i j,i<n→j<n→Nr (fun m=>D m i j) fun m=>Y m i j:=fun i j hi hj=>by
    refine ⟨T+1+2*N+1,by grind,fun m=>?_⟩
    have e0:=eM_pos m
    have t0:0≤N*eM m:=Rat.mul_nonneg hn0 (Rat.le_of_lt e0)
    have y1:=hall m i j hi hj
    have y2:Bx (Y m i j) (T+1+2*N+1):=by constructor<;>grind
    have s0:0≤(T+1)*eM m:=Rat.mul_nonneg (by grind) (Rat.le_of_lt e0)
    have ex:(T+1+2*N+1)*eM m=(T+1)*eM m+2*(N*eM m)+eM m:=by grind
    rw [ex]
    show Bx (cutD (Y m) (2*(N*eM m)) i j) _∧_∧Bx (cutD (Y m) (2*(N*eM m)) i j-Y m i j) _
    unfold cutD
    by_cases c:i=j
    · subst c
      rw [if_pos rfl]
      by_cases g : - (2*(N*eM m))≤Y m i i∧Y m i i≤2*(N*eM m)
      · rw [if_pos g]
        exact ⟨by constructor<;>grind,y2,by constructor<;>grind⟩
      · rw [if_neg g]
        exact ⟨y2,y2,by constructor<;>grind⟩
    · rw [if_neg c]
      have:=hoff m i j hi hj c
      exact ⟨by constructor<;>grind,y2,by constructor<;>grind⟩
  have hD:∀ m,ber (D m) n=pr (dl (D m) n):=fun m=>ber_dl fun i j _ _ hne=>by
    show cutD (Y m) (2*(N*eM m)) i j=0
    unfold cutD;rw [if_neg hne]
  have hdd:∀ m i,D m i i=if-(2*(N*eM m))≤Y m i i∧Y m i i≤2*(N*eM m) then 0 else Y m i i:=fun m i=>by
    show cutD (Y m) (2*(N*eM m)) i i=_
    unfold cutD;rw [if_pos rfl]
  have hsig:∀ m,Sig n (Y m) b a:=fun m=>by
    have h0:∀ Z:Nat→Nat→Rat,∀ i j,minusX Z 0 i j=Z i j:=fun Z i j=>by unfold minusX;split<;>grind
    exact ((hYm m).1.sig 0 b a (h.ext fun i j _ _=>h0 A i j)).ext fun i j _ _=>(h0 (Y m) i j).symm
  refine ⟨?_,fun k hk=>?_⟩
  · obtain ⟨K,K0,hK⟩:=nr_all (f:=fun m k=>ber (D m) n k) (g:=fun m k=>ber (Y m) n k) n fun k _=>ber_nr hnr n k (Nat.le_refl _)
    obtain ⟨de,hde,hde1,hdex⟩:∃ de:Rat,0<de∧de≤1∧de≤x*(1/2):=by
      rcases Rat.le_total (a:=(1:Rat)) (b:=x*(1/2)) with g | g
      · exact ⟨1,by grind,by grind,g⟩
      · exact ⟨x*(1/2),by grind,g,by grind⟩
    obtain ⟨η,η0,hη⟩:=alt_list (R:=T+2) (by grind) hde hde1 (n-a) a
    have hK1:(0:Rat)<K+1:=by grind
    have hKi:(K+1)*(K+1)⁻¹=1:=Rat.mul_inv_cancel _ (by grind)
    have hKp:0<(K+1)⁻¹:=Rat.inv_pos.2 hK1
    have hN1:(0:Rat)<N+1:=by grind
    have hNi:(N+1)*(N+1)⁻¹=1:=Rat.mul_inv_cancel _ (by grind)
    have hNp:0<(N+1)⁻¹:=Rat.inv_pos.2 hN1
    obtain ⟨m,hm1,hm2⟩:∃ m,eM m≤η*((K+1)⁻¹*(1/2))∧eM m≤x*((N+1)⁻¹*(1/8)):=by
      have q1:0<η*((K+1)⁻¹*(1/2)):=Rat.mul_pos η0 (Rat.mul_pos hKp (by grind))
      have q2:0<x*((N+1)⁻¹*(1/8)):=Rat.mul_pos hx0 (Rat.mul_pos hNp (by grind))
      rcases Rat.le_total (a:=η*((K+1)⁻¹*(1/2))) (b:=x*((N+1)⁻¹*(1/8))) with g | g
      · obtain ⟨m,hm⟩:=eM_small q1
        exact ⟨m,hm,Rat.le_trans hm g⟩
      · obtain ⟨m,hm⟩:=eM_small q2
        exact ⟨m,Rat.le_trans hm g,hm⟩
    have e0:=eM_pos m
    have hKe:K*eM m<η:=by
      have h2:=Rat.mul_le_mul_of_nonneg_left hm1 (show 0≤K+1 by grind)
      have e:(K+1)*(η*((K+1)⁻¹*(1/2)))=η*(1/2)*((K+1)*(K+1)⁻¹):=by grind
      rw [e,hKi] at h2
      grind
    have hte:2*(N*eM m)≤x*(1/4):=by
      have h2:=Rat.mul_le_mul_of_nonneg_left hm2 (show 0≤N+1 by grind)
      have e:(N+1)*(x*((N+1)⁻¹*(1/8)))=x*(1/8)*((N+1)*(N+1)⁻¹):=by grind
      rw [e,hNi] at h2
      grind
    have ht0:0≤N*eM m:=Rat.mul_nonneg hn0 (Rat.le_of_lt e0)
    have hcnt:=up_near (Rat.le_of_lt e0) (hoff m) ((hYm m).1.up x a hup)
    rw [hN] at hcnt
    have hlen:a≤((dl (D m) n).filter fun y=>decide (de≤y)).length:=by
      rw [dl_filter]
      refine Nat.le_trans hcnt ?_
      unfold cntP
      refine filter_mono _ fun i _ hi=>?_
      have hi:=of_decide_eq_true hi
      refine decide_eq_true ?_
      rw [hdd,if_neg (by grind)]
      grind
    have hbig:∀ y∈(dl (D m) n).filter (fun y=>decide (de≤y)),de≤y∧y≤T+2:=fun y hy=>by
      obtain ⟨h1,h2⟩:=List.mem_filter.1 hy
      refine ⟨of_decide_eq_true h2,?_⟩
      obtain ⟨i,hi,rfl⟩:=dl_mem h1
      have:=hall m i i hi hi
      rw [hdd]
      split<;>grind
    have hperm:=List.filter_append_perm (fun y=>decide (de≤y)) (dl (D m) n)
    generalize hpos:(dl (D m) n).filter (fun y=>decide (de≤y))=pos at *
    generalize (dl (D m) n).filter (fun y => !decide (de≤y))=rest at *
    have hperm2:(dl (D m) n).Perm (pos.take a++(pos.drop a++rest)):=by
      rw [← List.append_assoc,List.take_append_drop]
      exact hperm.symm
    have hl:=hperm2.length_eq
    rw [dl_len,List.length_append] at hl
    have hta:(pos.take a).length=a:=by rw [List.length_take];omega
    have halt:=hη (pos.take a) (pos.drop a++rest) hta (by omega) fun y hy=>hbig y (List.mem_of_mem_take hy)
    rw [← pr_perm hperm2,← hD m] at halt
    obtain ⟨ix,i0,i1,i2,i3⟩:=halt
    refine ⟨ix,i1,by omega,fun i hi=>?_⟩
    have h1:=i3 i hi
    have hle:ix i≤n:=by
      have:=inc_le i1 hi (Nat.le_refl _)
      omega
    have h2:=hK m (ix i) hle
    have h2:Bx (ber (D m) n (ix i)-ber (Y m) n (ix i)) (K*eM m):=h2
    rw [(hYm m).1.ber] at h2
    rcases sq_or i with g | g<;>rw [g] at h1 ⊢ <;> grind
  · obtain ⟨K,K0,hK⟩:=ber_nr hnr n k (Nat.le_refl _)
    refine lim_zero K0 fun m=>?_
    have h2:=(hK m).2.2
    have h2:Bx (ber (D m) n k-ber (Y m) n k) (K*eM m):=h2
    rw [(hYm m).1.ber] at h2
    have e0:=eM_pos m
    have ht0:0≤N*eM m:=Rat.mul_nonneg hn0 (Rat.le_of_lt e0)
    have z:ber (D m) n k=0:=by
      have hperm:=List.filter_append_perm (fun y:Rat=>decide (y≠0)) (dl (D m) n)
      rw [hD,← pr_perm hperm]
      refine pr_some _ _ (fun y hy=>?_) k ?_
      · have:=(List.mem_filter.1 hy).2
        simpa using this
      · refine Nat.lt_of_le_of_lt ?_ hk
        rw [dl_filter]
        have c1:=near_above (Rat.le_of_lt e0) (hoff m) (hsig m)
        have c2:=near_below (Rat.le_of_lt e0) (hoff m) (hsig m)
        rw [hN] at c1 c2
        refine Nat.le_trans (filter_or (q:=fun i=>decide (0<Y m i i-2*(N*eM m))) (r:=fun i=>decide (Y m i i - - (2*(N*eM m))<0)) _ fun i _ hi=>?_) (Nat.add_le_add c1 c2)
        have hi:=of_decide_eq_true hi
        rw [hdd] at hi
        by_cases g : - (2*(N*eM m))≤Y m i i∧Y m i i≤2*(N*eM m)
        · rw [if_pos g] at hi;exact absurd rfl hi
        · by_cases g2:Y m i i≤2*(N*eM m)
          · exact .inr (decide_eq_true (by grind))
          · exact .inl (decide_eq_true (by grind))
    rw [z] at h2
    exact h2
end Go.Ine
/-
  Changes of sign along a sequence, both ways; the rule of Descartes for symmetric matrices. No condition.
-/
namespace Go.Ine
def scan (s:Nat→Int):Nat→Int×Nat
  | 0=>(0,0)
  | k+1=>if s k=0 then scan s k else (s k,if (scan s k).1≠0∧s k≠(scan s k).1 then (scan s k).2+1 else (scan s k).2)
def S3 (s:Nat→Int):Prop:=∀ k,s k = -1∨s k=0∨s k=1
def sqI (k:Nat):Int:=if k%2=0 then 1 else -1
theorem sqI_or (k:Nat):sqI k=1∨sqI k = -1:=by
  unfold sqI
  split
  · exact .inl rfl
  · exact .inr rfl
def turnS (s:Nat→Int) (k:Nat):Int:=sqI k*s k
theorem turnS_zero {s:Nat→Int} {k:Nat}:turnS s k=0↔s k=0:=by
  unfold turnS
  rcases sqI_or k with g | g<;>rw [g]<;>omega
def AltI (s:Nat→Int) (v N:Nat):Prop:=∃ (ix:Nat→Nat) (g:Int),(g=1∨g = -1)∧(∀ i,i<v→ix i<ix (i+1))∧ix v<N∧∀ i,i≤v→s (ix i)=g*sqI i
theorem sqI_succ (i:Nat):sqI (i+1) = - sqI i:=by
  unfold sqI
  by_cases h:i%2=0
  · rw [if_pos h,if_neg (by omega)]
  · rw [if_neg h,if_pos (by omega)];rfl
theorem scan_low {s:Nat→Int} {v N:Nat} (h:AltI s v N):v≤(scan s N).2:=by
  obtain ⟨ix,g,hg,h1,h2,h3⟩:=h
  have hgs:∀ i,g*sqI i=1∨g*sqI i = -1:=fun i=>by
    rcases hg with rfl | rfl<;>rcases sqI_or i with c | c<;>rw [c]<;>decide
  -- from place ix i on
  have on:∀ i,i≤v→∀ m,ix i<m→((∀ j,j<i→True)∧(i≤(scan s (ix i+1)).2∧(scan s (ix i+1)).1=g*sqI i))→i≤(scan s m).2∧((scan s m).1=g*sqI i∨i+1≤(scan s m).2)∧(scan s m).1≠0∧((scan s m).1=1∨(scan s m).1 = -1∨i+1≤(scan s m).2):=by
    intro i hi m
    induction m with
    | zero=>intro h;omega
    | succ m ih=>
      intro hm hb
      by_cases c:m=ix i
      · subst c
        obtain ⟨_,b1,b2⟩:=hb
        have:=hgs i
        exact ⟨b1,.inl b2,by rw [b2];omega,by rw [b2];rcases this with q | q<;>rw [q]<;>simp⟩
      · obtain ⟨a1,a2,a3,a4⟩:=ih (by omega) hb
        unfold scan
        by_cases z:s m=0
        · rw [if_pos z];exact ⟨a1,a2,a3,a4⟩
        · rw [if_neg z]
          dsimp only
          by_cases w:(scan s m).1≠0∧s m≠(scan s m).1
          · rw [if_pos w]
            exact ⟨by omega,.inr (by omega),z,.inr (.inr (by omega))⟩
          · rw [if_neg w]
            have hw:s m=(scan s m).1:=Decidable.of_not_not fun q=>w ⟨a3,q⟩
            rw [hw]
            exact ⟨a1,a2,a3,a4⟩
  have at_:∀ i,i≤v→(i≤(scan s (ix i+1)).2∧(scan s (ix i+1)).1=g*sqI i):=by
    intro i
    induction i with
    | zero=>
      intro hi
      have h0:=h3 0 hi
      unfold scan
      rw [if_neg (by rw [h0];have:=hgs 0;omega)]
      exact ⟨Nat.zero_le _,h0⟩
    | succ i ih=>
      intro hi
      have hb:=ih (by omega)
      obtain ⟨a1,a2,a3,_⟩:=on i (by omega) (ix (i+1)) (h1 i (by omega)) ⟨fun _ _=>trivial,hb⟩
      have h0:=h3 (i+1) hi
      have hq:=hgs i
      rw [sqI_succ] at h0 ⊢
      have hne:s (ix (i+1))≠0:=by rw [h0,Int.mul_neg];omega
      unfold scan
      rw [if_neg hne]
      refine ⟨?_,h0⟩
      dsimp only
      rcases a2 with a2 | a2
      · rw [if_pos ⟨a3,by rw [h0,a2,Int.mul_neg];omega⟩];omega
      · split<;>omega
  exact (on v (Nat.le_refl _) N h2 ⟨fun _ _=>trivial,at_ v (Nat.le_refl _)⟩).1
theorem scan_up {s:Nat→Int} (h:S3 s):∀ N:Nat,((∀ k,k<N→s k=0)∧(scan s N)=(0,0)∧scan (turnS s) N=(0,0)) ∨
    ∃ f p,f≤p∧p<N∧s f≠0∧s p≠0∧(∀ k,k<N→s k≠0→f≤k∧k≤p)∧(scan s N).1=s p∧(scan (turnS s) N).1=turnS s p∧(scan s N).2+(scan (turnS s) N).2≤p-f
  | 0 => .inl ⟨fun k hk=>by omega,rfl,rfl⟩
  | N+1=>by
    have ih:=scan_up h N
    unfold scan
    by_cases z:s N=0
    · rw [if_pos z,if_pos (turnS_zero.2 z)]
      rcases ih with ⟨a1,a2,a3⟩ | ⟨f,p,b1,b2,b3,b4,b5,b6⟩
      · exact .inl ⟨fun k hk=>by
          by_cases c:k=N
          · rw [c];exact z
          · exact a1 k (by omega),a2,a3⟩
      · exact .inr ⟨f,p,b1,by omega,b3,b4,fun k hk hne=>by
          by_cases c:k=N
          · rw [c] at hne;exact absurd z hne
          · exact b5 k (by omega) hne,b6⟩
    · have z2:turnS s N≠0:=fun c=>z (turnS_zero.1 c)
      rw [if_neg z,if_neg z2]
      rcases ih with ⟨a1,a2,a3⟩ | ⟨f,p,b1,b2,b3,b4,b5,b6,b7,b8⟩
      · refine .inr ⟨N,N,Nat.le_refl _,by omega,z,z,fun k hk hne=>?_,rfl,rfl,?_⟩
        · by_cases c:k=N
          · omega
          · exact absurd (a1 k (by omega)) hne
        · rw [a2,a3];simp
      · refine .inr ⟨f,N,by omega,by omega,b3,z,fun k hk hne=>?_,rfl,rfl,?_⟩
        · by_cases c:k=N
          · omega
          · have:=b5 k (by omega) hne
            omega
        · dsimp only
          rw [b6,b7]
          have hp0:turnS s p≠0:=fun c=>b4 (turnS_zero.1 c)
          have e1:(if s p≠0∧s N≠s p then (scan s N).2+1 else (scan s N).2)=(scan s N).2+if s N≠s p then 1 else 0:=by
            by_cases c:s N=s p
            · rw [if_neg (fun q=>q.2 c),if_neg (fun q=>q c)];rfl
            · rw [if_pos ⟨b4,c⟩,if_pos c]
          have e2:(if turnS s p≠0∧turnS s N≠turnS s p then (scan (turnS s) N).2+1 else (scan (turnS s) N).2)=(scan (turnS s) N).2+if turnS s N≠turnS s p then 1 else 0:=by
            by_cases c:turnS s N=turnS s p
            · rw [if_neg (fun q=>q.2 c),if_neg (fun q=>q c)];rfl
            · rw [if_pos ⟨hp0,c⟩,if_pos c]
          rw [e1,e2]
          have key:(if s N≠s p then 1 else 0)+(if turnS s N≠turnS s p then 1 else 0)≤N-p:=by
            have hN:=h N
            have hpp:=h p
            unfold turnS sqI
            by_cases c1:N%2=0<;>by_cases c2:p%2=0
            · rw [if_pos c1,if_pos c2];split<;>split<;>omega
            · rw [if_pos c1,if_neg c2];split<;>split<;>omega
            · rw [if_neg c1,if_pos c2];split<;>split<;>omega
            · rw [if_neg c1,if_neg c2];split<;>split<;>omega
          omega
theorem scan_two {s:Nat→Int} {v w f p N:Nat} (h:S3 s) (hp:p<N) (hr:∀ k,k<N→s k≠0→f≤k∧k≤p) (h1:AltI s v N) (h2:AltI (turnS s) w N) (hvw:p≤f+v+w):(scan s N).2=v∧(f≤p→s f≠0∧s p≠0):=by
  have l1:=scan_low h1
  have l2:=scan_low h2
  rcases scan_up h N with ⟨a1,a2,a3⟩ | ⟨f',p',b1,b2,b3,b4,b5,b6,b7,b8⟩
  · exfalso
    obtain ⟨ix,g,hg,c1,c2,c3⟩:=h1
    have e:=c3 0 (Nat.zero_le _)
    have hle:ix 0≤ix v:=inc_le c1 (Nat.zero_le _) (Nat.le_refl _)
    rw [a1 _ (by omega)] at e
    unfold sqI at e
    rw [if_pos (by decide)] at e
    omega
  · have q1:=hr f' (by omega) b3
    have q2:=hr p' b2 b4
    refine ⟨by omega,fun hfp=>?_⟩
    have ef:f'=f:=by omega
    have ep:p'=p:=by omega
    rw [← ef,← ep]
    exact ⟨b3,b4⟩
theorem sq_mul (i j:Nat):sq (i+j)=sq i*sq j:=by
  induction j with
  | zero=>rw [Nat.add_zero];show sq i=sq i*1;rw [Rat.mul_one]
  | succ j ih=>rw [← Nat.add_assoc,sq_succ,sq_succ,ih];grind
section
variable {A:Nat→Nat→Rat}
theorem wC_neg (m:Nat):∀ r i,wC (fun i j => - A i j) m r i=sq (r+1)*wC A m r i
  | 0,i=>by
    show-A i m=sq 1*A i m
    have:sq 1 = -1:=rfl
    rw [this];grind
  | r+1,i=>by
    show (sm m fun l => - A i l*wC (fun i j => - A i j) m r l)=sq (r+2)*sm m fun l=>A i l*wC A m r l
    rw [← sm_mul]
    refine sm_congr fun l _=>?_
    rw [wC_neg m r l,sq_succ (r+1)];grind
theorem bS_neg (m:Nat):∀ k,bS (fun i j => - A i j) m k=sq k*bS A m k
  | 0=>by show (1:Rat)=1*1;rw [Rat.mul_one]
  | 1=>by
    show - - A m m=sq 1 * - A m m
    have:sq 1 = -1:=rfl
    rw [this];grind
  | k+2=>by
    show-(sm m fun i => - A m i*wC (fun i j => - A i j) m k i)=sq (k+2) * - sm m fun i=>A m i*wC A m k i
    have e:(sm m fun i => - A m i*wC (fun i j => - A i j) m k i) = - sq (k+1)*sm m fun i=>A m i*wC A m k i:=by
      rw [← sm_mul]
      exact sm_congr fun i _=>by rw [wC_neg m k i];grind
    rw [e,sq_succ (k+1)];grind
theorem ber_neg:∀ (m k:Nat),ber (fun i j => - A i j) m k=sq k*ber A m k
  | 0,k=>by
    show un k=sq k*un k
    cases k with
    | zero=>show (1:Rat)=1*1;rw [Rat.mul_one]
    | succ k=>show (0:Rat)=_*0;rw [Rat.mul_zero]
  | m+1,k=>by
    show (sm (k+1) fun i=>ber (fun i j => - A i j) m i*bS (fun i j => - A i j) m (k-i))=sq k*sm (k+1) fun i=>ber A m i*bS A m (k-i)
    rw [← sm_mul]
    refine sm_congr fun i hi=>?_
    have e:sq k=sq i*sq (k-i):=by rw [← sq_mul];congr 1;omega
    rw [ber_neg m i,bS_neg m (k-i),e];grind
end
def sgR (x:Rat):Int:=if x<0 then -1 else if x=0 then 0 else 1
theorem sgR_3 (f:Nat→Rat):S3 fun k=>sgR (f k):=fun k=>by
  show sgR (f k) = -1∨sgR (f k)=0∨sgR (f k)=1
  unfold sgR
  split
  · exact .inl rfl
  · split
    · exact .inr (.inl rfl)
    · exact .inr (.inr rfl)
theorem sgR_zero {x:Rat}:sgR x=0↔x=0:=by
  unfold sgR
  by_cases h:x<0
  · rw [if_pos h]
    exact ⟨fun c=>by omega,fun c=>by rw [c] at h;grind⟩
  · rw [if_neg h]
    by_cases g:x=0
    · rw [if_pos g];exact ⟨fun _=>g,fun _=>rfl⟩
    · rw [if_neg g];exact ⟨fun c=>by omega,fun c=>absurd c g⟩
theorem sgR_of {x:Rat} {i:Nat} (h:0<sq i*x):sgR x=sqI i:=by
  unfold sgR sqI
  unfold sq at h
  by_cases c:i%2=0
  · rw [if_pos c] at h ⊢
    rw [if_neg (by grind),if_neg (by grind)]
  · rw [if_neg c] at h ⊢
    rw [if_pos (by grind)]
theorem sgR_mul {x:Rat} (k:Nat):sgR (sq k*x)=sqI k*sgR x:=by
  unfold sgR sqI sq
  by_cases c:k%2=0
  · rw [if_pos c,if_pos c,Rat.one_mul];omega
  · rw [if_neg c,if_neg c]
    by_cases h:x<0
    · rw [if_pos h,if_neg (by grind),if_neg (by grind)];rfl
    · rw [if_neg h]
      by_cases g:x=0
      · rw [if_pos g,g,if_neg (by grind),if_pos (by grind)];rfl
      · rw [if_neg g,if_pos (by grind)];rfl
section
variable {n b a:Nat} {A:Nat→Nat→Rat}
theorem sig_le (h:Sig n A b a):a+b≤n:=by
  obtain ⟨W,d,_,rfl,rfl⟩:=h
  have key:∀ m,cntP m d+cntN m d≤m:=fun m=>by
    induction m with
    | zero=>exact Nat.le_refl _
    | succ m ih=>
      rw [cntP_succ,cntN_succ]
      by_cases c:0<d m
      · rw [if_pos c,if_neg (by grind)];omega
      · rw [if_neg c];split<;>omega
  exact key n
theorem desc_high (hs:∀ i j,A i j=A j i) (h:Sig n A b a):(scan (fun k=>sgR (ber A n k)) (n+1)).2=a∧ber A n (a+b)≠0∧∀ k,a+b<k→ber A n k=0:=by
  have hle:=sig_le h
  obtain ⟨⟨ix,i1,i2,i3⟩,z⟩:=char_alt hs h
  obtain ⟨⟨jx,j1,j2,j3⟩,_⟩:=char_alt (A:=fun i j => - A i j) (fun i j=>by rw [hs i j]) h.neg
  have a1:AltI (fun k=>sgR (ber A n k)) a (n+1):=⟨ix,1,.inl rfl,i1,by omega,fun i hi=>by rw [Int.one_mul];exact sgR_of (i3 i hi)⟩
  have a2:AltI (turnS fun k=>sgR (ber A n k)) b (n+1):=⟨jx,1,.inl rfl,j1,by omega,fun i hi=>by
    have:=sgR_of (j3 i hi)
    rw [ber_neg,sgR_mul] at this
    rw [Int.one_mul];exact this⟩
  have h0:∀ k,k<n+1→sgR (ber A n k)≠0→0≤k∧k≤a+b:=fun k _ hne=>⟨Nat.zero_le _,Nat.not_lt.1 fun c=>hne (sgR_zero.2 (z k c))⟩
  obtain ⟨r1,r2⟩:=scan_two (f:=0) (p:=a+b) (sgR_3 _) (by omega) h0 a1 a2 (by omega)
  exact ⟨r1,fun c=>(r2 (Nat.zero_le _)).2 (sgR_zero.2 c),z⟩
theorem desc_low (hs:∀ i j,A i j=A j i) (h:Sig n A b a):(scan (fun k=>sgR (ber A n (n-k))) (n+1)).2=a∧ber A n (a+b)≠0∧∀ k,a+b<k→ber A n k=0:=by
  have hle:=sig_le h
  obtain ⟨_,hne,z⟩:=desc_high hs h
  refine ⟨?_,hne,z⟩
  obtain ⟨⟨ix,i1,i2,i3⟩,_⟩:=char_alt hs h
  obtain ⟨⟨jx,j1,j2,j3⟩,_⟩:=char_alt (A:=fun i j => - A i j) (fun i j=>by rw [hs i j]) h.neg
  have sub:∀ v i,i≤v→sqI v=sqI i*sqI (v-i):=fun v i hi=>by
    unfold sqI
    by_cases c1:v%2=0<;>by_cases c2:i%2=0
    · rw [if_pos c1,if_pos c2,if_pos (by omega)];rfl
    · rw [if_pos c1,if_neg c2,if_neg (by omega)];rfl
    · rw [if_neg c1,if_pos c2,if_neg (by omega)];rfl
    · rw [if_neg c1,if_neg c2,if_pos (by omega)];rfl
  have sqq:∀ i,sqI i*sqI i=1:=fun i=>by rcases sqI_or i with c | c<;>rw [c]<;>rfl
  have hinc:∀ {v:Nat} {kx:Nat→Nat},(∀ i,i<v→kx i<kx (i+1))→kx v≤n→∀ i,i<v→n-kx (v-i)<n-kx (v-(i+1)):=fun {v kx} h1 h2 i hi=>by
    have:=h1 (v-(i+1)) (by omega)
    rw [show v-(i+1)+1=v-i by omega] at this
    have:=inc_le h1 (show v-i≤v by omega) (Nat.le_refl _)
    omega
  have a1:AltI (fun k=>sgR (ber A n (n-k))) a (n+1):=by
    refine ⟨fun i=>n-ix (a-i),sqI a,sqI_or a,hinc i1 i2,Nat.lt_succ_of_le (Nat.sub_le _ _),fun i hi=>?_⟩
    have hx:=inc_le i1 (show a-i≤a by omega) (Nat.le_refl _)
    show sgR (ber A n (n-(n-ix (a-i))))=_
    rw [show n-(n-ix (a-i))=ix (a-i) by omega,sgR_of (i3 (a-i) (by omega)),sub a i hi,Int.mul_comm (sqI i),Int.mul_assoc,sqq,Int.mul_one]
  have a2:AltI (turnS fun k=>sgR (ber A n (n-k))) b (n+1):=by
    refine ⟨fun i=>n-jx (b-i),sqI n*sqI b,?_,hinc j1 j2,Nat.lt_succ_of_le (Nat.sub_le _ _),fun i hi=>?_⟩
    · rcases sqI_or n with c | c<;>rcases sqI_or b with g | g<;>rw [c,g]<;>decide
    · have hx:=inc_le j1 (show b-i≤b by omega) (Nat.le_refl _)
      have h3:=sgR_of (j3 (b-i) (by omega))
      rw [ber_neg,sgR_mul] at h3
      show sqI (n-jx (b-i))*sgR (ber A n (n-(n-jx (b-i))))=_
      rw [show n-(n-jx (b-i))=jx (b-i) by omega]
      have e1:=sub n (jx (b-i)) (by omega)
      have e2:=sub b i hi
      have q1:=sqq (jx (b-i))
      have q2:=sqq i
      rcases sqI_or (jx (b-i)) with c1 | c1<;>rcases sqI_or (n-jx (b-i)) with c2 | c2<;>rcases sqI_or i with c3 | c3<;>rcases sqI_or (b-i) with c4 | c4<;>rw [c1,c4] at h3<;>rw [c1,c2] at e1<;>rw [c3,c4] at e2<;>rw [e1,e2,c2,c3]<;>omega
  have h0:∀ k,k<n+1→sgR (ber A n (n-k))≠0→n-(a+b)≤k∧k≤n:=fun k hk hne=>by
    refine ⟨Nat.not_lt.1 fun c=>hne (sgR_zero.2 (z (n-k) (by omega))),by omega⟩
  exact (scan_two (f:=n-(a+b)) (p:=n) (sgR_3 _) (by omega) h0 a1 a2 (by omega)).1
end
end Go.Ine
