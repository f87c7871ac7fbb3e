
/-
  Matrices on the plain side: what the twins of the package matrix come to (as Pmx, without Identity). No condition.
-/
import Derived.Test.YtgbilchfljlbeaaDoorPs
import Derived.Test.YtgbilchfljlbeaaDoorOpp
import Derived.Test.YtgbilchfljlbeaaDoorFlz3
import Derived.Test.YtgbilchfljlbeaaDoorFl2
set_option linter.all false
set_option maxRecDepth 100000
set_option maxHeartbeats 4000000
namespace Go.Eng
open Go
def rightB (r c:Int) (n:Nat):Bool:=decide (0≤r∧r≤48∧0≤c∧c≤48∧(n:Int)=r*c)
theorem fits_t (n:Int):T_matrix_fits n=some (decide (0≤n∧n≤48)):=by
  unfold T_matrix_fits
  refine eq_cond (fun h=>?_) (fun h=>?_)<;>simp at h<;>simp<;>omega
theorem prod_le {r c:Int} (h:0≤r∧r≤48∧0≤c∧c≤48):0≤r*c∧r*c≤2304:=
  ⟨Int.mul_nonneg h.1 h.2.2.1,by have:=Int.mul_le_mul h.2.1 h.2.2.2 h.2.2.1 (by omega:(0:Int)≤48);omega⟩
theorem mright_t (r c:Int) (l:List Nat):T_matrix_Right r c l=some (rightB r c l.length):=by
  unfold T_matrix_Right
  simp only [fits_t,Option.bind_some]
  refine eq_cond (fun h=>eq_cond (fun h2=>?_) (fun h2=>?_)) (fun h=>?_)
  · simp only [decide_eq_true_eq] at h h2
    have:=prod_le ⟨h.1,h.2,h2⟩
    rw [wrI (by omega) (by omega)]
    congr 1
    unfold rightB
    rw [Bool.eq_iff_iff];simp;omega
  · simp only [decide_eq_false_iff_not] at h h2
    congr 1;unfold rightB;simp;omega
  · simp only [decide_eq_false_iff_not] at h
    congr 1;unfold rightB;simp;omega
theorem rightB_nat {r c:Int} {n:Nat} (h:rightB r c n=true):∃ a b:Nat,r=a∧c=b∧a≤48∧b≤48∧n=a*b∧a*b≤2304:=by
  unfold rightB at h
  simp only [decide_eq_true_eq] at h
  obtain ⟨h1,h2,h3,h4,h5⟩:=h
  obtain ⟨a,rfl⟩:=Int.eq_ofNat_of_zero_le h1
  obtain ⟨b,rfl⟩:=Int.eq_ofNat_of_zero_le h3
  have:a*b≤48*48:=Nat.mul_le_mul (by omega) (by omega)
  refine ⟨a,b,rfl,rfl,by omega,by omega,?_,by omega⟩
  have:((a*b:Nat):Int)=(a:Int)*b:=by simp
  omega
def grid (r c:Nat) (g:Nat→Nat→Nat):List Nat:=(List.range (r*c)).map fun k=>g (k/c) (k%c)
theorem grid_len (r c:Nat) (g:Nat→Nat→Nat):(grid r c g).length=r*c:=by simp [grid]
theorem div_idx {i j c:Nat} (hj:j<c):(i*c+j)/c=i:=by
  rw [Nat.mul_comm,Nat.mul_add_div (by omega),Nat.div_eq_of_lt hj,Nat.add_zero]
theorem mod_idx {i j c:Nat} (hj:j<c):(i*c+j)%c=j:=by
  rw [Nat.mul_comm,Nat.mul_add_mod,Nat.mod_eq_of_lt hj]
theorem grid_at {r c i j:Nat} {g:Nat→Nat→Nat} (hi:i<r) (hj:j<c):(grid r c g).getD (i*c+j) 0=g i j:=by
  have:=idxL hi hj
  simp [grid,List.getD_eq_getElem?_getD,this,div_idx hj,mod_idx hj]
theorem grid_of {r c:Nat} {g:Nat→Nat→Nat} {l:List Nat} (hl:l.length=r*c) (h:∀ i j,i<r→j<c→l.getD (i*c+j) 0=g i j):l=grid r c g:=by
  refine ext_getD 0 (by rw [hl,grid_len]) fun k hk=>?_
  rw [hl] at hk
  have hc:0<c:=by
      rcases Nat.eq_zero_or_pos c with h | h; · subst h;simp at hk
      · exact h
  have h1:k/c<r:=(Nat.div_lt_iff_lt_mul hc).2 hk
  have h2:k%c<c:=Nat.mod_lt _ hc
  have e:k/c*c+k%c=k:=by rw [Nat.mul_comm];exact Nat.div_add_mod k c
  have:=h _ _ h1 h2
  rw [← e,this,grid_at h1 h2]
theorem laid_t {r c:Nat} (hr:r≤48) (hc:c≤48) {f:Int→Int→Option Nat} {g:Nat→Nat→Nat} (hf:∀ i j:Nat,i<r→j<c→f i j=some (g i j)):T_matrix_laid r c f=some ((r:Int),(c:Int),grid r c g):=by
  have hrc:r*c≤2304:=Nat.le_trans (Nat.mul_le_mul hr hc) (by omega)
  unfold T_matrix_laid
  rw [wrMul (by omega),mk_nat (by omega),Option.bind_some]
  have hin:∀ i,i<r→iter (T_matrix_laid_b9 c f i) FU (((0:Nat):Int),filled (r*c) (nf 0) (fun k=>g (k/c) (k%c)) (i*c))=some (filled (r*c) (nf 0) (fun k=>g (k/c) (k%c)) ((i+1)*c)):=by
    intro i hi
    have hic:(i+1)*c≤r*c:=Nat.mul_le_mul_right _ hi
    rw [Nat.succ_mul] at hic
    refine iter_nat (fun j=>(((j:Nat):Int),filled (r*c) (nf 0) (fun k=>g (k/c) (k%c)) (i*c+j))) (o:=filled (r*c) (nf 0) (fun k=>g (k/c) (k%c)) ((i+1)*c)) c (by rw [FU_eq];omega) (fun j hj=>?_) ?_
    · have hidx:=idxL hi hj
      unfold T_matrix_laid_b9
      dsimp only
      rw [cond_t (by simp;omega),hf i j hi hj,Option.bind_some,wrIdx hi hj (by omega),at_getD 0 (by rw [filled_len (by omega)];exact hidx)]
      simp only [Option.bind_some,Int.toNat_natCast]
      rw [wrU (by omega)]
      have:=filled_set (z:=nf 0) (G:=fun k=>g (k/c) (k%c)) hidx
      rw [div_idx hj,mod_idx hj] at this
      rw [this];rfl
    · unfold T_matrix_laid_b9
      dsimp only
      rw [cond_f (by simp),Nat.succ_mul]
  rw [← filled_zero (G:=fun k=>g (k/c) (k%c))]
  have hout:iter (T_matrix_laid_b7 r c f) FU (((0:Nat):Int),filled (r*c) (nf 0) (fun k=>g (k/c) (k%c)) (0*c))=some (filled (r*c) (nf 0) (fun k=>g (k/c) (k%c)) (r*c)):=by
    refine iter_nat (fun i=>(((i:Nat):Int),filled (r*c) (nf 0) (fun k=>g (k/c) (k%c)) (i*c))) (o:=filled (r*c) (nf 0) (fun k=>g (k/c) (k%c)) (r*c)) r (by rw [FU_eq];omega) (fun i hi=>?_) ?_
    · unfold T_matrix_laid_b7
      dsimp only
      have h0:=hin i hi
      rw [cond_t (by simp;omega)]
      rw [show ((0:Nat):Int)=0 from rfl] at h0
      rw [h0,Option.bind_some,wrU (by omega)]
    · unfold T_matrix_laid_b7
      dsimp only
      rw [cond_f (by simp)]
  rw [Nat.zero_mul,show ((0:Nat):Int)=0 from rfl] at hout
  rw [hout,Option.bind_some,filled_full]
  rfl
def noMat (e:Int):Int×Int×List Nat×Int:=(0,0,[],e)
theorem set_getD {l:List Nat} {i j x:Nat} (hi:i<l.length):(l.set i x).getD j 0=if j=i then x else l.getD j 0:=by
  by_cases h:j=i
  · subst h;simp [List.getD_eq_getElem?_getD,hi]
  · rw [if_neg h];simp [List.getD_eq_getElem?_getD,List.getElem?_set_ne (Ne.symm h)]
def turnG (l:List Nat) (c:Nat) (i j:Nat):Nat:=l.getD (j*c+i) 0
theorem transp_t (r c:Int) (l:List Nat):T_matrix_Transpose r c l=some (if rightB r c l.length then (c,r,grid c.toNat r.toNat (turnG l c.toNat),0) else noMat 4):=by
  unfold T_matrix_Transpose
  rw [mright_t,Option.bind_some]
  cases hR:rightB r c l.length with
  | false=>rfl
  | true=>
    obtain ⟨a,b,rfl,rfl,ha,hb,hl,h2⟩:=rightB_nat hR
    rw [Bool.not_true,cF,laid_t hb ha (g:=turnG l b) (fun i j hi hj=>by
      unfold T_matrix_Transpose_1
      have:=idxL hj hi
      rw [wrIdx hj hi (by omega),at_getD 0 (by omega)];rfl)]
    simp
end Go.Eng
/-
  Triangles, factors and lists that grow in the midst (the lemmas of Pf that need no twin of the package solve; for the seat of 12). No condition.
-/
set_option maxRecDepth 100000
set_option maxHeartbeats 4000000
namespace Go.Eng
open Go
def tri (n:Nat):Nat:=n*(n-1)/2
theorem tri_succ (n:Nat):tri (n+1)=tri n+n:=by
  cases n with
  | zero=>rfl
  | succ n=>
    unfold tri
    have:(n+1+1)*(n+1+1-1)=(n+1)*(n+1-1)+(n+1)*2:=by
      simp only [Nat.add_sub_cancel]
      rw [← Nat.mul_add,Nat.mul_comm]
    rw [this,Nat.add_mul_div_right _ _ (by omega)]
theorem tri_mono {i n:Nat} (h:i≤n):tri i≤tri n:=by
  induction n with
  | zero=>
      have:i=0:=by omega
      subst this;exact Nat.le_refl _
  | succ n ih=>
    by_cases e:i=n+1
    · subst e;exact Nat.le_refl _
    · have:=ih (by omega)
      rw [tri_succ];omega
theorem tri_lt {i j n:Nat} (hj:j<i) (hi:i<n):tri i+j<tri n:=by
  have:=tri_mono (show i+1≤n by omega)
  rw [tri_succ] at this
  omega
theorem tri_le {n:Nat} (h:n≤48):tri n≤1128:=tri_mono h
def lowG (l:List Nat) (i j:Nat):Nat:=l.getD (tri i+j) 0
theorem app_lt {p r:List Nat} {j:Nat} (h:j<p.length):(p++r).getD j 0=p.getD j 0:=by
  simp [List.getD_eq_getElem?_getD,List.getElem?_append_left h]
theorem app_set {p r:List Nat} {x y i:Nat} (h:p.length=i):(p++x::r).set i y=p++y::r:=by
  subst h;simp
theorem drop_cons {l:List Nat} {i:Nat} (h:i<l.length):l.drop i=l.getD i 0::l.drop (i+1):=by
  rw [List.drop_eq_getElem_cons h,List.getD_eq_getElem?_getD,List.getElem?_eq_getElem h];rfl
end Go.Eng
/-
  The package lower on the plain side: Times. No condition.
-/
set_option maxRecDepth 100000
set_option maxHeartbeats 4000000
namespace Go.Eng
open Go
theorem triInt {n:Nat} (hn:n≤4096):IntKind.i64.wrap ((IntKind.i64.wrap ((n:Int)*(IntKind.i64.wrap ((n:Int)-1)))).tdiv 2)=((tri n:Nat):Int):=by
  cases n with
  | zero=>decide
  | succ n=>
    have e1:IntKind.i64.wrap (((n+1:Nat):Int)-1)=((n+1-1:Nat):Int):=by rw [wrI (by omega) (by omega)];omega
    have hb:(n+1)*(n+1-1)≤4096*4096:=Nat.mul_le_mul (by omega) (by omega)
    have e2:((((n+1)*(n+1-1):Nat):Int)).tdiv 2=((tri (n+1):Nat):Int):=rfl
    have ht:tri (n+1)≤4096*4096:=Nat.le_trans (Nat.div_le_self _ _) hb
    rw [e1,wrMul (by omega),e2,wrN (by omega)]
def rowL (l:List Nat) (i:Nat):List Nat:=(l.drop (tri i)).take i
theorem rowL_len {l:List Nat} {n i:Nat} (hl:l.length=tri n) (hi:i<n):(rowL l i).length=i:=by
  have:=tri_mono (show i+1≤n by omega)
  rw [tri_succ] at this
  simp [rowL];omega
theorem row_t {l:List Nat} {n i:Nat} (hn:n≤48) (hl:l.length=tri n) (hi:i<n):T_lower_row l (i:Int)=some (((tri i:Nat):Int),((tri i+i:Nat):Int)):=by
  have h1:=tri_mono (show i+1≤n by omega)
  rw [tri_succ] at h1
  have h2:=tri_le hn
  unfold T_lower_row
  rw [triInt (by omega),wrAdd (by omega),sub_nat (by omega) (by omega)];rfl
theorem rowSub {l:List Nat} {n i:Nat} (hl:l.length=tri n) (hi:i<n):subL l ((tri i:Nat):Int) ((tri i+i:Nat):Int)=some (rowL l i):=by
  have h1:=tri_mono (show i+1≤n by omega)
  rw [tri_succ] at h1
  rw [sub_nat (by omega) (by omega),Nat.add_sub_cancel_left];rfl
section
variable {l d:List Nat} {n:Nat} (hn:n≤48) (hl:l.length=tri n) (hd:d.length=n)
include hn hl hd
end
end Go.Eng
/-
  The package lower on the plain side: Factor, the code's and the reference's. No condition.
-/
set_option maxRecDepth 100000
set_option maxHeartbeats 4000000
namespace Go.Eng
open Go
theorem vsame_t {l m:List Nat} (hl:l.length≤4294967296):T_vector_Same l m=some (l==m):=by
  unfold T_vector_Same
  rw [cond_t (by simpa using hl)]
theorem msame_t {r c r' c':Int} {l m:List Nat} (hl:l.length≤4294967296):T_matrix_Same r c l r' c' m=some (r==r'&&c==c'&&l==m):=by
  unfold T_matrix_Same
  simp only [vsame_t hl,Option.bind_some]
  cases r==r'<;>cases c==c'<;>rfl
def symB (r c:Int) (l:List Nat):Bool:=rightB r c l.length&&r==c&&grid c.toNat r.toNat (turnG l c.toNat)==l
theorem symm_t (r c:Int) (l:List Nat):T_matrix_Symmetric r c l=some (symB r c l):=by
  unfold T_matrix_Symmetric
  rw [transp_t,Option.bind_some]
  unfold symB
  cases hR:rightB r c l.length with
  | false=>rfl
  | true=>
    obtain ⟨a,b,rfl,rfl,ha,hb,hl,h2⟩:=rightB_nat hR
    simp only [if_true,Int.toNat_natCast]
    rw [cond_t (by rfl),msame_t (by rw [grid_len,Nat.mul_comm];omega),Option.bind_some]
    congr 1
    by_cases h:a=b
    · subst h;simp
    · have e1:((b:Int)==(a:Int))=false:=by simp;omega
      have e2:((a:Int)==(b:Int))=false:=by simp;omega
      simp [e1,e2]
theorem lfin_t (x:Nat):T_lower_finite x=some (decide (magF x<9218868437227405312)):=by
  unfold T_lower_finite T_math_IsNaN
  simp only [Option.bind_some,feq_self,Bool.not_not]
  cases h:isNaN x with
  | true=>
    rw [isNaN_mag] at h
    have:9218868437227405312<magF x:=by simpa using h
    simp;omega
  | false=>
    have h1:isNaN (magF x)=false:=by rw [isNaN_mag] at h ⊢;rw [magF_magF];exact h
    have e:nf 9218868437227405311=9218868437227405311:=by decide +kernel
    have hi:T_math_IsInf x 0=some (decide (magF x=9218868437227405312)):=by
      unfold T_math_IsInf T_math_Abs
      simp only [nf_of_not h1,Option.bind_some,beq_self_eq_true,cT,isInf_test,e]
    rw [isNaN_mag] at h
    have : ¬ 9218868437227405312<magF x:=by simpa using h
    rw [hi]
    simp only [Bool.not_false,cT,Option.bind_some]
    congr 1
    rw [Bool.eq_iff_iff];simp;omega
def Step2 {τ τ' ω ω':Type} (R:τ→τ'→Prop) (O:ω→ω'→Prop) (x:Option (τ⊕ω)) (y:Option (τ'⊕ω')):Prop:=
  (∃ t t',x=some (.inl t)∧y=some (.inl t')∧R t t')∨(∃ o o',x=some (.inr o)∧y=some (.inr o')∧O o o')
theorem iter_two {τ τ' ω ω':Type} {b:τ→Option (τ⊕ω)} {b':τ'→Option (τ'⊕ω')} (R:Nat→τ→τ'→Prop) (O:ω→ω'→Prop) (n:Nat)
    (hstep:∀ k s s',k<n→R k s s'→Step2 (R (k+1)) O (b s) (b' s')) (hstop:∀ s s',R n s s'→∃ o o',b s=some (.inr o)∧b' s'=some (.inr o')∧O o o') :
    ∀ (k m m':Nat) (s:τ) (s':τ'),k≤n→n-k<m→n-k<m'→R k s s'→∃ o o',iter b m s=some o∧iter b' m' s'=some o'∧O o o':=by
  have key:∀ d k m m' s s',n-k=d→k≤n→n-k<m→n-k<m'→R k s s'→∃ o o',iter b m s=some o∧iter b' m' s'=some o'∧O o o':=by
    intro d
    induction d with
    | zero=>
      intro k m m' s s' hd hk hm hm' hR
      obtain ⟨m,rfl⟩:∃ q,m=q+1:=⟨m-1,by omega⟩
      obtain ⟨m',rfl⟩:∃ q,m'=q+1:=⟨m'-1,by omega⟩
      have:k=n:=by omega
      subst this
      obtain ⟨o,o',h1,h2,h3⟩:=hstop s s' hR
      rw [iter_succ,iter_succ,h1,h2]
      exact ⟨o,o',rfl,rfl,h3⟩
    | succ d ih=>
      intro k m m' s s' hd hk hm hm' hR
      obtain ⟨m,rfl⟩:∃ q,m=q+1:=⟨m-1,by omega⟩
      obtain ⟨m',rfl⟩:∃ q,m'=q+1:=⟨m'-1,by omega⟩
      rw [iter_succ,iter_succ]
      rcases hstep k s s' (by omega) hR with ⟨t,t',h1,h2,h3⟩ | ⟨o,o',h1,h2,h3⟩
      · rw [h1,h2]
        exact ih (k+1) m m' t t' (by omega) (by omega) (by omega) (by omega) h3
      · rw [h1,h2]
        exact ⟨o,o',rfl,rfl,h3⟩
  exact fun k m m' s s' hk hm hm' hR=>key (n-k) k m m' s s' rfl hk hm hm' hR
def subS (f g:Nat→Nat) (s:Nat):Nat→Nat
  | 0=>s
  | j+1=>fsub (subS f g s j) (fmul (f j) (g j))
def vsN (L D:List Nat) (j k:Nat):Nat:=fmul (lowG L j k) (D.getD k 0)
theorem rowL_at {l:List Nat} {n i k:Nat} (hl:l.length=tri n) (hi:i<n) (hk:k<i):(rowL l i).getD k 0=lowG l i k:=by
  unfold rowL lowG
  simp [List.getD_eq_getElem?_getD,List.getElem?_take,hk]
section
variable {a L D:List Nat} {n:Nat} (hn:n≤48) (ha:a.length=n*n) (hL:L.length=tri n) (hD:D.length=n)
include hn hL
theorem diag_t {j s:Nat} {v:List Nat} (hj:j<n) (hv:v.length=n) (hD:D.length=n) :
    ∃ v',v'.length=n∧(∀ k,k<j→v'.getD k 0=vsN L D j k)∧iter (T_lower_Factor_b31 (j:Int) (rowL L j) D) FU (s,0,v)=some (subS (fun k=>lowG L j k) (vsN L D j) s j,v'):=by
  let G:=fun k=>if k<j then vsN L D j k else v.getD k 0
  let V:=fun k=>(List.range k).map (vsN L D j)++v.drop k
  have len:∀ k,k≤n→(V k).length=n:=fun k hk=>by simp [V,hv];omega
  have:=iter_nat (b:=T_lower_Factor_b31 (j:Int) (rowL L j) D) (fun k=>(subS (fun k=>lowG L j k) (vsN L D j) s k,((k:Nat):Int),V k)) (o:=(subS (fun k=>lowG L j k) (vsN L D j) s j,V j)) j (by rw [FU_eq];omega) (fun k hk=>by
    have hset:(V k).set k (vsN L D j k)=V (k+1):=by
      show ((List.range k).map (vsN L D j)++v.drop k).set k _=_
      rw [drop_cons (l:=v) (by omega),app_set (by simp)]
      show _=(List.range (k+1)).map (vsN L D j)++v.drop (k+1)
      rw [← map_range_snoc];simp
    have hget:(V (k+1)).getD k 0=vsN L D j k:=by
      show ((List.range (k+1)).map (vsN L D j)++v.drop (k+1)).getD k 0=_
      rw [app_lt (by simp)]
      simp [List.getD_eq_getElem?_getD]
    unfold T_lower_Factor_b31
    dsimp only
    rw [cond_t (by simp;omega),at_getD 0 (by rw [rowL_len hL hj];exact hk),Option.bind_some,at_getD 0 (by omega),Option.bind_some,Option.bind_some,at_getD 0 (by rw [len k (by omega)];omega)]
    simp only [Option.bind_some,Int.toNat_natCast]
    have e:fmul (lowG L j k) (D.getD k 0)=vsN L D j k:=rfl
    rw [rowL_at hL hj hk,e,hset,at_getD 0 (by rw [len _ (by omega)];omega),Option.bind_some,hget,fmul_comm (vsN L D j k),wrU (by omega)];rfl) (by
    unfold T_lower_Factor_b31
    dsimp only
    rw [cond_f (by simp)])
  refine ⟨V j,len j (by omega),fun k hk=>?_,?_⟩
  · show ((List.range j).map (vsN L D j)++v.drop j).getD k 0=_
    rw [app_lt (by simpa using hk)]
    simp [List.getD_eq_getElem?_getD,hk]
  · have h0:V 0=v:=by simp [V]
    rw [h0] at this
    exact this
theorem down_t {i j s:Nat} {v:List Nat} (hi:i<n) (hji:j<i) (hv:v.length=n) (hV:∀ k,k<j→v.getD k 0=vsN L D j k) {L':List Nat} (hL':L'.length=tri n) :
    iter (T_lower_Factor_b40 (j:Int) (rowL L' i) v) FU (s,0)=some (subS (fun k=>lowG L' i k) (vsN L D j) s j):=by
  have:=iter_nat (b:=T_lower_Factor_b40 (j:Int) (rowL L' i) v) (fun k=>(subS (fun k=>lowG L' i k) (vsN L D j) s k,((k:Nat):Int))) (o:=subS (fun k=>lowG L' i k) (vsN L D j) s j) j (by rw [FU_eq];omega) (fun k hk=>by
    unfold T_lower_Factor_b40
    dsimp only
    rw [cond_t (by simp;omega),at_getD 0 (by rw [rowL_len hL' hi];omega),Option.bind_some,at_getD 0 (by omega)]
    simp only [Option.bind_some]
    rw [rowL_at hL' hi (by omega),hV k hk,wrU (by omega)];rfl) (by
    unfold T_lower_Factor_b40
    dsimp only
    rw [cond_f (by simp)])
  exact this
end
def finQ (x:Nat):Bool:=decide (magF x<9218868437227405312)
abbrev OutC:=(Int×Int×List Nat)⊕(Int×Int×List Nat×List Nat)
section
variable {a:List Nat} {n:Nat} (hn:n≤48) (ha:a.length=n*n)
include hn ha
end
end Go.Eng
/-
  The package lower on the plain side: Factor, whole. No condition.
-/
set_option maxRecDepth 100000
set_option maxHeartbeats 4000000
namespace Go.Eng
open Go
section
variable {a:List Nat} {n:Nat} (hn:n≤48) (ha:a.length=n*n)
include hn ha
end
theorem mirrored_some (q r:Int) (l:List Nat):∃ t,T_w12_mirrored q r l=some t:=by
  have h1:∃ m:Nat,m≤48∧m*m≤l.length∧iter (T_w12_mirrored_b2 l q) FU 0=some (m:Int):=by
    have step:∀ k:Nat,k<48→T_w12_mirrored_b2 l q (k:Int)=cond (decide ((k+1)*(k+1)≤l.length∧(k:Int)<q)) (some (.inl ((k+1:Nat):Int))) (some (.inr (k:Int))):=by
      intro k hk
      have hb:(k+1)*(k+1)≤48*48:=Nat.mul_le_mul (by omega) (by omega)
      unfold T_w12_mirrored_b2
      simp only [Option.bind_some,wrU (show k+1<9223372036854775808 by omega)]
      rw [cond_t (by simp;omega),wrMul (by omega)]
      generalize (k+1)*(k+1)=s
      by_cases g1:s≤l.length
      · rw [cond_t (by simp;omega)]
        by_cases g2:(k:Int)<q
        · rw [cond_t (by simpa using g2),cond_t (by simp [g1,g2])]
        · rw [cond_f (by simpa using g2),cond_f (by simp [g2])]
      · rw [cond_f (by simp;omega),cond_f (by simp [g1])]
    have inv:∀ m:Nat,(∀ k,k<m→decide ((k+1)*(k+1)≤l.length∧(k:Int)<q)=true)→m*m≤l.length:=by
      intro m h
      cases m with
      | zero=>omega
      | succ m=>
        have:=h m (by omega)
        simp only [decide_eq_true_eq] at this
        exact this.1
    rcases first_mark (fun k => !decide ((k+1)*(k+1)≤l.length∧(k:Int)<q)) 48 with h | ⟨m,h1,h2,h3⟩
    · have h':∀ k,k<48→decide ((k+1)*(k+1)≤l.length∧(k:Int)<q)=true:=fun k hk=>by have:=h k hk;rw [Bool.not_eq_false'] at this;exact this
      refine ⟨48,Nat.le_refl _,inv 48 h',?_⟩
      exact iter_nat (b:=T_w12_mirrored_b2 l q) (fun k=>((k:Nat):Int)) (o:=((48:Nat):Int)) 48 (by rw [FU_eq];omega) (fun k hk=>by rw [step k hk,h' k hk,cT]) (by
        unfold T_w12_mirrored_b2
        dsimp only
        rw [cond_f (by simp)])
    · have h':∀ k,k<m→decide ((k+1)*(k+1)≤l.length∧(k:Int)<q)=true:=fun k hk=>by have:=h3 k hk;rw [Bool.not_eq_false'] at this;exact this
      refine ⟨m,by omega,inv m h',?_⟩
      exact iter_nat (b:=T_w12_mirrored_b2 l q) (fun k=>((k:Nat):Int)) (o:=(m:Int)) m (by rw [FU_eq];omega) (fun k hk=>by rw [step k (by omega),h' k hk,cT]) (by
        have:decide ((m+1)*(m+1)≤l.length∧(m:Int)<q)=false:=by rw [Bool.not_eq_true'] at h2;exact h2
        rw [step m h1,this,cF])
  obtain ⟨m,h48,hm,hit⟩:=h1
  have hmm:m*m≤2304:=Nat.le_trans (Nat.mul_le_mul h48 h48) (by omega)
  unfold T_w12_mirrored
  rw [hit,Option.bind_some,wrMul (by omega),mk_nat (by omega),Option.bind_some]
  have inner:∀ i,i<m→∀ t:List Nat,t.length=m*m→∃ o o':List Nat,iter (T_w12_mirrored_b11 (i:Int) l (m:Int)) FU (0,t)=some o∧iter (T_w12_mirrored_b11 (i:Int) l (m:Int)) FU (0,t)=some o'∧o.length=m*m:=by
    intro i hi t ht
    refine iter_two (b:=T_w12_mirrored_b11 (i:Int) l (m:Int)) (b':=T_w12_mirrored_b11 (i:Int) l (m:Int)) (fun k s s'=>∃ t:List Nat,t.length=m*m∧s=(((k:Nat):Int),t)∧s'=(((k:Nat):Int),t)) (fun o _=>o.length=m*m) (i+1) ?_ ?_ 0 FU FU _ _ (by omega) (by rw [FU_eq];omega) (by rw [FU_eq];omega) ⟨t,ht,rfl,rfl⟩
    · intro k s s' hk ⟨t,ht,e1,e2⟩
      subst e1;subst e2
      have hkm:k<m:=by omega
      have x1:=idxL hi hkm
      have x2:=idxL hkm hi
      have e:T_w12_mirrored_b11 (i:Int) l (m:Int) ((k:Int),t)=some (.inl (((k+1:Nat):Int),(t.set (i*m+k) (l.getD (i*m+k) 0)).set (k*m+i) (l.getD (i*m+k) 0))):=by
        unfold T_w12_mirrored_b11
        dsimp only
        rw [cond_t (by simp;omega),wrIdx hi hkm (by omega),at_getD 0 (by omega),Option.bind_some,at_getD 0 (by omega)]
        simp only [Option.bind_some,Int.toNat_natCast]
        rw [wrIdx hkm hi (by omega),at_getD 0 (by rw [List.length_set];omega)]
        simp only [Option.bind_some,Int.toNat_natCast]
        rw [wrU (by omega)]
      exact .inl ⟨_,_,e,e,_,by simpa using ht,rfl,rfl⟩
    · intro s s' ⟨t,ht,e1,e2⟩
      subst e1;subst e2
      refine ⟨t,t,?_,?_,ht⟩ <;>
      · unfold T_w12_mirrored_b11
        dsimp only
        rw [cond_f (by simp;omega)]
  have outer:∃ o o':List Nat,iter (T_w12_mirrored_b9 (m:Int) l) FU (0,List.replicate (m*m) (nf 0))=some o∧iter (T_w12_mirrored_b9 (m:Int) l) FU (0,List.replicate (m*m) (nf 0))=some o'∧True:=by
    refine iter_two (b:=T_w12_mirrored_b9 (m:Int) l) (b':=T_w12_mirrored_b9 (m:Int) l) (fun k s s'=>∃ t:List Nat,t.length=m*m∧s=(((k:Nat):Int),t)∧s'=(((k:Nat):Int),t)) (fun _ _=>True) m ?_ ?_ 0 FU FU _ _ (by omega) (by rw [FU_eq];omega) (by rw [FU_eq];omega) ⟨_,List.length_replicate,rfl,rfl⟩
    · intro k s s' hk ⟨t,ht,e1,e2⟩
      subst e1;subst e2
      obtain ⟨o,_,h1,_,h2⟩:=inner k hk t ht
      have e:T_w12_mirrored_b9 (m:Int) l ((k:Int),t)=some (.inl (((k+1:Nat):Int),o)):=by
        unfold T_w12_mirrored_b9
        dsimp only
        rw [cond_t (by simp;omega),h1,Option.bind_some,wrU (by omega)]
      exact .inl ⟨_,_,e,e,o,h2,rfl,rfl⟩
    · intro s s' ⟨t,ht,e1,e2⟩
      subst e1;subst e2
      refine ⟨t,t,?_,?_,trivial⟩ <;>
      · unfold T_w12_mirrored_b9
        dsimp only
        rw [cond_f (by simp)]
  obtain ⟨o,_,ho,_⟩:=outer
  rw [ho]
  exact ⟨_,rfl⟩
end Go.Eng
/-
  The package lower on the plain side: what a factor is, by equations; Factor answers it, and what Factor answers is one. No condition.
-/
set_option maxRecDepth 100000
set_option maxHeartbeats 4000000
namespace Go.Eng
open Go
theorem iter_keep {τ ω:Type} {b:τ→Option (τ⊕ω)} (R:τ→Prop) (O:ω→Prop) (h1:∀ s,R s→∀ t,b s=some (.inl t)→R t) (h2:∀ s,R s→∀ o,b s=some (.inr o)→O o) :
    ∀ m s o,R s→iter b m s=some o→O o:=by
  intro m
  induction m with
  | zero=>intro s o _ h;cases h
  | succ m ih=>
    intro s o hs h
    rw [iter_succ] at h
    cases hb:b s with
    | none=>rw [hb] at h;cases h
    | some r=>
      rw [hb] at h
      cases r with
      | inl t=>exact ih t o (h1 s hs t hb) h
      | inr o'=>cases h;exact h2 s hs _ hb
theorem tri_inj {i i' k k':Nat} (hk:k<i) (hk':k'<i') (h:tri i+k=tri i'+k'):i=i'∧k=k':=by
  rcases Nat.lt_trichotomy i i' with c | c | c
  · have:=tri_mono (show i+1≤i' by omega);rw [tri_succ] at this;omega
  · subst c;exact ⟨rfl,by omega⟩
  · have:=tri_mono (show i'+1≤i by omega);rw [tri_succ] at this;omega
theorem low_set {L:List Nat} {i j i' k q:Nat} (hj:j<i) (hk:k<i') (hl:tri i+j<L.length):lowG (L.set (tri i+j) q) i' k=if i'=i∧k=j then q else lowG L i' k:=by
  unfold lowG
  by_cases e:i'=i∧k=j
  · obtain ⟨rfl,rfl⟩:=e
    rw [if_pos ⟨rfl,rfl⟩,set_getD (by omega),if_pos rfl]
  · rw [if_neg e]
    have:tri i+j≠tri i'+k:=fun h=>e (by have:=tri_inj hj hk h;omega)
    simp [List.getD_eq_getElem?_getD,List.getElem?_set,this]
def AgL (n j:Nat) (L L':List Nat):Prop:=∀ i k,k<i→i<n→k<j→lowG L i k=lowG L' i k
def AgD (j:Nat) (D D':List Nat):Prop:=∀ k,k<j→D.getD k 0=D'.getD k 0
theorem subS_congr {f g f' g':Nat→Nat} {s:Nat}:∀ {j:Nat},(∀ k,k<j→f k=f' k∧g k=g' k)→subS f g s j=subS f' g' s j
  | 0,_=>rfl
  | j+1,h=>by
    unfold subS
    rw [subS_congr (j:=j) fun k hk=>h k (by omega),(h j (by omega)).1,(h j (by omega)).2]
theorem sub_ag {n i j s:Nat} {L1 L2 L3 L4 D D':List Nat} (hi:i<n) (hj:j≤i) (h1:AgL n j L1 L2) (h2:AgL n j L3 L4) (h3:AgD j D D') :
    subS (fun k=>lowG L1 i k) (vsN L3 D j) s j=subS (fun k=>lowG L2 i k) (vsN L4 D' j) s j:=by
  refine subS_congr fun k hk=>⟨h1 i k (by omega) hi hk,?_⟩
  unfold vsN
  rw [h2 j k hk (by omega) hk,h3 k hk]
def colS (a:List Nat) (n:Nat) (L D:List Nat) (i j:Nat):Nat:=subS (fun k=>lowG L i k) (vsN L D j) (a.getD (i*n+j) 0) j
theorem colS_ag {a:List Nat} {n i j:Nat} {L L' D D':List Nat} (hi:i<n) (hj:j≤i) (h2:AgL n j L L') (h3:AgD j D D'):colS a n L D i j=colS a n L' D' i j:=sub_ag hi hj h2 h2 h3
structure FacTo (a:List Nat) (n m:Nat) (L D:List Nat):Prop where
  lenL:L.length=tri n
  lenD:D.length=n
  dia:∀ j,j<m→D.getD j 0=colS a n L D j j∧fgt (D.getD j 0) 0=true∧finQ (D.getD j 0)=true
  bel:∀ i j,j<i→i<n→j<m→lowG L i j=fdiv (colS a n L D i j) (D.getD j 0)∧finQ (lowG L i j)=true
abbrev Fac (a:List Nat) (n:Nat) (L D:List Nat):Prop:=FacTo a n n L D
section
variable {a:List Nat} {n:Nat} (hn:n≤48) (ha:a.length=n*n)
include hn ha
theorem b38_step {i j:Nat} (hi:i<n) (hji:j<i) {L D D2 v L':List Nat} (hL:L.length=tri n) (hD2:D2.length=n) (hv:v.length=n) (hV:∀ k,k<j→v.getD k 0=vsN L D j k) (hL':L'.length=tri n)
    {q:Nat} (hq:q=fdiv (subS (fun k=>lowG L' i k) (vsN L D j) (a.getD (i*n+j) 0) j) (D2.getD j 0)) :
    T_lower_Factor_b38 (n:Int) a (j:Int) v D2 (0,0,(i:Int),L')=cond (!finQ q) (some (.inr (.inr (6,(j:Int),D2,L'.set (tri i+j) q)))) (some (.inl (0,0,((i+1:Nat):Int),L'.set (tri i+j) q))):=by
  have hnn:n*n≤2304:=Nat.le_trans (Nat.mul_le_mul hn hn) (by omega)
  have hj:j<n:=by omega
  have hix:=idxL hi hj
  have ht:=tri_lt hji hi
  have h1:=tri_mono (show i+1≤n by omega)
  rw [tri_succ] at h1
  have htl:=tri_le hn
  have hset:(L'.set (tri i+j) q).length=tri n:=by simpa using hL'
  unfold T_lower_Factor_b38
  dsimp only
  rw [cond_t (by simp;omega),row_t hn hL' hi,Option.bind_some]
  dsimp only
  rw [rowSub hL' hi,Option.bind_some,wrIdx hi hj (by omega),at_getD 0 (by omega),Option.bind_some,down_t hn hL hi hji hv hV hL',Option.bind_some,at_getD 0 (by omega),Option.bind_some,Option.bind_some,at_getD 0 (by rw [rowL_len hL' hi];exact hji)]
  simp only [Option.bind_some,Int.toNat_natCast]
  rw [← hq,rowSub (l:=L'.set (tri i+j) q) hset hi,Option.bind_some,at_getD 0 (by rw [rowL_len hset hi];exact hji),Option.bind_some,rowL_at hset hi hji,lfin_t,Option.bind_some]
  have g:lowG (L'.set (tri i+j) q) i j=q:=by unfold lowG;rw [set_getD (by omega),if_pos rfl]
  rw [g,wrU (by omega)];rfl
theorem b38_stop {j:Nat} {v D2 L':List Nat}:T_lower_Factor_b38 (n:Int) a (j:Int) v D2 (0,0,(n:Int),L')=some (.inr (.inl (0,0,L'))):=by
  unfold T_lower_Factor_b38
  dsimp only
  rw [cond_f (by simp)]
theorem b29_step {j:Nat} (hj:j<n) {L D v:List Nat} (hL:L.length=tri n) (hD:D.length=n) (hv:v.length=n) :
    ∃ v',v'.length=n∧(∀ k,k<j→v'.getD k 0=vsN L D j k)∧T_lower_Factor_b29 (n:Int) a (0,0,(j:Int),v,D,L)=cond (fgt (colS a n L D j j) 0&&finQ (colS a n L D j j))
      ((iter (T_lower_Factor_b38 (n:Int) a (j:Int) v' (D.set j (colS a n L D j j))) FU (0,0,((j+1:Nat):Int),L):Option OutC).bind fun o=>match o with
        | .inl (t48,t49,t50)=>some (.inl (t48,t49,((j+1:Nat):Int),v',D.set j (colS a n L D j j),t50))
        | .inr w=>some (.inr w)) (some (.inr (220,(j:Int),D,L))):=by
  have hnn:n*n≤2304:=Nat.le_trans (Nat.mul_le_mul hn hn) (by omega)
  have hix:=idxL hj hj
  generalize hs:colS a n L D j j=S
  obtain ⟨v',hv',hV',hd⟩:=diag_t hn hL (s:=a.getD (j*n+j) 0) hj hv hD
  have hs':subS (fun k=>lowG L j k) (vsN L D j) (a.getD (j*n+j) 0) j=S:=hs
  rw [hs'] at hd
  refine ⟨v',hv',hV',?_⟩
  unfold T_lower_Factor_b29
  dsimp only
  rw [cond_t (by simp;omega),row_t hn hL hj,Option.bind_some]
  dsimp only
  rw [rowSub hL hj,Option.bind_some,wrIdx hj hj (by omega),at_getD 0 (by omega),Option.bind_some,Option.bind_some,rowL_len hL hj,hd,Option.bind_some]
  dsimp only
  rw [nf_zero,lfin_t]
  cases fgt S 0 with
  | false=>rfl
  | true=>
    show ((some (!finQ S)).bind _)=_
    rw [Option.bind_some]
    cases finQ S with
    | false=>rfl
    | true=>
      rw [Bool.not_true,cF,at_getD 0 (by omega)]
      simp only [Option.bind_some,Int.toNat_natCast,Bool.and_self,cT]
      rw [wrU (by omega)];rfl
theorem b29_stop {v D L:List Nat}:T_lower_Factor_b29 (n:Int) a (0,0,(n:Int),v,D,L)=some (.inr (0,0,D,L)):=by
  unfold T_lower_Factor_b29
  dsimp only
  rw [cond_f (by simp)]
theorem below_run {j:Nat} (hj:j<n) {L D D2 v:List Nat} (hL:L.length=tri n) (hD2:D2.length=n) (hv:v.length=n) (hV:∀ k,k<j→v.getD k 0=vsN L D j k) {o:OutC}
    (h:iter (T_lower_Factor_b38 (n:Int) a (j:Int) v D2) FU (0,0,((j+1:Nat):Int),L)=some o) :
    (∃ L',o = .inl (0,0,L')∧L'.length=tri n∧AgL n j L' L∧∀ i,j<i→i<n→lowG L' i j=fdiv (colS a n L D i j) (D2.getD j 0)∧finQ (lowG L' i j)=true)∨∃ x y,o = .inr (6,(j:Int),x,y):=by
  refine iter_keep (b:=T_lower_Factor_b38 (n:Int) a (j:Int) v D2) (fun s=>∃ i L',j<i∧i≤n∧s=(0,0,((i:Nat):Int),L')∧L'.length=tri n∧AgL n j L' L∧∀ i',j<i'→i'<i→lowG L' i' j=fdiv (colS a n L D i' j) (D2.getD j 0)∧finQ (lowG L' i' j)=true)
    (fun o=>(∃ L',o = .inl (0,0,L')∧L'.length=tri n∧AgL n j L' L∧∀ i,j<i→i<n→lowG L' i j=fdiv (colS a n L D i j) (D2.getD j 0)∧finQ (lowG L' i j)=true)∨∃ x y,o = .inr (6,(j:Int),x,y)) ?_ ?_ FU _ o ⟨j+1,L,by omega,by omega,rfl,hL,fun _ _ _ _ _=>rfl,fun i' h1 h2=>by omega⟩ h
  · intro s ⟨i,L',hji,hin,hs,hL',hA,hC⟩ t ht
    subst hs
    by_cases e:i=n
    · subst e;rw [b38_stop hn ha] at ht;cases ht
    · have hi:i<n:=by omega
      have hlt:=tri_lt hji hi
      have hq:fdiv (colS a n L D i j) (D2.getD j 0)=fdiv (subS (fun k=>lowG L' i k) (vsN L D j) (a.getD (i*n+j) 0) j) (D2.getD j 0):=by
        unfold colS
        rw [sub_ag (L1:=L') (L2:=L) (L3:=L) (L4:=L) (D:=D) (D':=D) hi (by omega) hA (fun _ _ _ _ _=>rfl) (fun _ _=>rfl)]
      rw [b38_step hn ha hi hji hL hD2 hv hV hL' hq] at ht
      generalize fdiv (colS a n L D i j) (D2.getD j 0)=q at hq ht
      cases hf:finQ q with
      | false=>rw [hf] at ht;cases ht
      | true=>
        rw [hf] at ht
        have ht:=Option.some.inj ht
        have ht:=(Sum.inl.inj ht).symm
        subst ht
        refine ⟨i+1,_,by omega,by omega,rfl,by simpa using hL',fun i' k h1 h2 h3=>?_,fun i' h1 h2=>?_⟩
        · rw [low_set hji h1 (by omega),if_neg (by omega)];exact hA i' k h1 h2 h3
        · rw [low_set hji h1 (by omega)]
          by_cases c:i'=i
          · subst c
            rw [if_pos ⟨rfl,rfl⟩]
            refine ⟨?_,hf⟩
            rw [hq]
            unfold colS
            rw [sub_ag (L1:=L') (L2:=L) (L3:=L) (L4:=L) (D:=D) (D':=D) hi (by omega) hA (fun _ _ _ _ _=>rfl) (fun _ _=>rfl)]
          · rw [if_neg (by omega)];exact hC i' h1 (by omega)
  · intro s ⟨i,L',hji,hin,hs,hL',hA,hC⟩ o ho
    subst hs
    by_cases e:i=n
    · subst e
      rw [b38_stop hn ha] at ho
      have ho:=(Sum.inr.inj (Option.some.inj ho)).symm
      subst ho
      exact .inl ⟨L',rfl,hL',hA,hC⟩
    · have hi:i<n:=by omega
      rw [b38_step hn ha hi hji hL hD2 hv hV hL' rfl] at ho
      generalize fdiv (subS (fun k=>lowG L' i k) (vsN L D j) (a.getD (i*n+j) 0) j) (D2.getD j 0)=q at ho
      cases hf:finQ q with
      | true=>rw [hf] at ho;cases ho
      | false=>
        rw [hf] at ho
        have ho:=(Sum.inr.inj (Option.some.inj ho)).symm
        subst ho
        exact .inr ⟨_,_,rfl⟩
theorem set_ag {D:List Nat} {j x:Nat}:AgD j (D.set j x) D:=fun k hk=>by
  simp [List.getD_eq_getElem?_getD,List.getElem?_set,show j≠k by omega]
theorem cols_run {o:Int×Int×List Nat×List Nat} (h:iter (T_lower_Factor_b29 (n:Int) a) FU (0,0,0,List.replicate n 0,List.replicate n 0,List.replicate (tri n) 0)=some o) :
    (∃ D L,o=(0,0,D,L)∧Fac a n L D)∨o.1≠0:=by
  refine iter_keep (b:=T_lower_Factor_b29 (n:Int) a) (fun s=>∃ (j:Nat) (v D L:List Nat),j≤n∧v.length=n∧s=(0,0,((j:Nat):Int),v,D,L)∧FacTo a n j L D)
    (fun o=>(∃ D L,o=(0,0,D,L)∧Fac a n L D)∨o.1≠0) ?_ ?_ FU _ o ⟨0,_,_,_,by omega,List.length_replicate,rfl,⟨List.length_replicate,List.length_replicate,fun j h=>by omega,fun i j _ _ h=>by omega⟩⟩ h
  · intro s ⟨j,v,D,L,hjn,hv,hs,hF⟩ t ht
    subst hs
    by_cases e:j=n
    · subst e;rw [b29_stop hn ha] at ht;cases ht
    · have hj:j<n:=by omega
      obtain ⟨v',hv',hV',hb⟩:=b29_step hn ha hj hF.lenL hF.lenD hv
      rw [hb] at ht
      generalize hS:colS a n L D j j=S at *
      cases hg:(fgt S 0&&finQ S) with
      | false=>rw [hg] at ht;cases ht
      | true=>
        rw [hg,cT] at ht
        have hD2:(D.set j S).length=n:=by simpa using hF.lenD
        cases ho:(iter (T_lower_Factor_b38 (n:Int) a (j:Int) v' (D.set j S)) FU (0,0,((j+1:Nat):Int),L):Option OutC) with
        | none=>rw [ho] at ht;cases ht
        | some o=>
          rw [ho,Option.bind_some] at ht
          rcases below_run hn ha hj hF.lenL hD2 hv' hV' ho with ⟨L',rfl,hL',hA,hC⟩ | ⟨x,y,rfl⟩
          · have ht:=(Sum.inl.inj (Option.some.inj ht)).symm
            subst ht
            have hdj:(D.set j S).getD j 0=S:=by rw [set_getD (by rw [hF.lenD];exact hj),if_pos rfl]
            rw [Bool.and_eq_true] at hg
            have hAD:AgD j (D.set j S) D:=set_ag hn ha
            have mono:∀ j',j'≤j→AgL n j' L' L∧AgD j' (D.set j S) D:=fun j' h=>⟨fun i k h1 h2 h3=>hA i k h1 h2 (by omega),fun k hk=>hAD k (by omega)⟩
            refine ⟨j+1,v',D.set j S,L',by omega,hv',rfl,⟨hL',hD2,fun j' h1=>?_,fun i j' h1 h2 h3=>?_⟩⟩
            · by_cases c:j'=j
              · subst c
                rw [hdj,colS_ag hj (Nat.le_refl _) hA hAD,hS]
                exact ⟨rfl,hg.1,hg.2⟩
              · rw [hAD j' (by omega),colS_ag (show j'<n by omega) (Nat.le_refl _) (mono j' (by omega)).1 (mono j' (by omega)).2]
                exact hF.dia j' (by omega)
            · by_cases c:j'=j
              · subst c
                rw [colS_ag h2 (by omega) hA hAD]
                exact hC i h1 h2
              · rw [hA i j' h1 h2 (by omega),hAD j' (by omega),colS_ag h2 (by omega) (mono j' (by omega)).1 (mono j' (by omega)).2]
                exact hF.bel i j' h1 h2 (by omega)
          · cases ht
  · intro s ⟨j,v,D,L,hjn,hv,hs,hF⟩ o' ht
    subst hs
    by_cases e:j=n
    · subst e
      rw [b29_stop hn ha] at ht
      have ht:=(Sum.inr.inj (Option.some.inj ht)).symm
      subst ht
      exact .inl ⟨D,L,rfl,hF⟩
    · have hj:j<n:=by omega
      right
      obtain ⟨v',hv',hV',hb⟩:=b29_step hn ha hj hF.lenL hF.lenD hv
      rw [hb] at ht
      generalize hS:colS a n L D j j=S at *
      cases hg:(fgt S 0&&finQ S) with
      | false=>
        rw [hg] at ht
        have ht:=(Sum.inr.inj (Option.some.inj ht)).symm
        subst ht
        show (220:Int)≠0
        decide
      | true=>
        rw [hg,cT] at ht
        have hD2:(D.set j S).length=n:=by simpa using hF.lenD
        cases ho:(iter (T_lower_Factor_b38 (n:Int) a (j:Int) v' (D.set j S)) FU (0,0,((j+1:Nat):Int),L):Option OutC) with
        | none=>rw [ho] at ht;cases ht
        | some o=>
          rw [ho,Option.bind_some] at ht
          rcases below_run hn ha hj hF.lenL hD2 hv' hV' ho with ⟨L',rfl,hL',hA,hC⟩ | ⟨x,y,rfl⟩
          · cases ht
          · have ht:=(Sum.inr.inj (Option.some.inj ht)).symm
            subst ht
            show (6:Int)≠0
            decide
end
theorem scan_t {l:List Nat} (hl:l.length≤4096):iter (T_lower_Factor_b2 ((l.length:Nat):Int) l) FU (0,0,0)=some (if ∀ i,i<l.length→finQ (l.getD i 0)=true then .inl (0,0) else .inr (0,[],[],5,0)):=by
  have step:∀ k,k<l.length→finQ (l.getD k 0)=true→T_lower_Factor_b2 ((l.length:Nat):Int) l (0,0,((k:Nat):Int))=some (.inl (0,0,((k+1:Nat):Int))):=by
    intro k hk hf
    unfold T_lower_Factor_b2
    dsimp only
    rw [cond_t (by simp;omega),at_getD 0 hk]
    simp only [Option.bind_some,lfin_t]
    rw [show decide (magF (l.getD k 0)<9218868437227405312)=true from hf,Bool.not_true,cF,wrU (by omega)]
  rcases first_mark (fun i => !finQ (l.getD i 0)) l.length with hall | ⟨i,hi,hne,hbef⟩
  · have hall':∀ i,i<l.length→finQ (l.getD i 0)=true:=fun i hi=>by simpa using hall i hi
    rw [if_pos hall']
    exact iter_nat (b:=T_lower_Factor_b2 ((l.length:Nat):Int) l) (fun k=>(0,0,((k:Nat):Int))) (o := .inl (0,0)) l.length (by rw [FU_eq];omega) (fun k hk=>step k hk (hall' k hk)) (by
      unfold T_lower_Factor_b2
      dsimp only
      rw [cond_f (by simp)])
  · have hf:finQ (l.getD i 0)=false:=by simpa using hne
    rw [if_neg (fun h=>by rw [h i hi] at hf;cases hf)]
    exact iter_nat (b:=T_lower_Factor_b2 ((l.length:Nat):Int) l) (fun k=>(0,0,((k:Nat):Int))) (o := .inr (0,[],[],5,0)) i (by rw [FU_eq];omega) (fun k hk=>step k (by omega) (by simpa using hbef k hk)) (by
      unfold T_lower_Factor_b2
      dsimp only
      rw [cond_t (by simp;omega),at_getD 0 hi]
      simp only [Option.bind_some,lfin_t]
      rw [show decide (magF (l.getD i 0)<9218868437227405312)=false from hf,Bool.not_false,cT];rfl)
structure Squ (n:Nat) (l:List Nat):Prop where
  n48:n≤48
  len:l.length=n*n
  sym:∀ i j,i<n→j<n→l.getD (i*n+j) 0=l.getD (j*n+i) 0
  fin:∀ i,i<l.length→finQ (l.getD i 0)=true
theorem symB_squ {q r:Int} {l:List Nat} (h:symB q r l=true):∃ n:Nat,q=n∧r=n∧n≤48∧l.length=n*n∧∀ i j,i<n→j<n→l.getD (i*n+j) 0=l.getD (j*n+i) 0:=by
  unfold symB at h
  simp only [Bool.and_eq_true,beq_iff_eq] at h
  obtain ⟨⟨hR,hrc⟩,hg⟩:=h
  obtain ⟨n,b,rfl,rfl,hn,_,hl,hb⟩:=rightB_nat hR
  have hnb:n=b:=by omega
  subst hnb
  refine ⟨n,rfl,rfl,hn,hl,fun i j hi hj=>?_⟩
  have:=grid_at (r:=n) (c:=n) (g:=turnG l n) hi hj
  simp only [Int.toNat_natCast] at hg
  rw [hg] at this
  exact this
theorem factor_run {q r t:Int} {l L D:List Nat} {x:Int} (h:T_lower_Factor q r l=some (t,L,D,0,x)):∃ n:Nat,q=n∧r=n∧t=n∧Squ n l∧Fac l n L D:=by
  unfold T_lower_Factor at h
  rw [symm_t,Option.bind_some] at h
  cases hs:symB q r l with
  | false=>rw [hs] at h;simp at h
  | true=>
    obtain ⟨n,rfl,rfl,hn,hl,hsym⟩:=symB_squ hs
    have hnn:n*n≤2304:=Nat.le_trans (Nat.mul_le_mul hn hn) (by omega)
    have ht:=tri_le hn
    rw [hs,Bool.not_true,cF,Option.bind_some,scan_t (by omega)] at h
    by_cases hf:∀ i,i<l.length→finQ (l.getD i 0)=true
    · rw [if_pos hf,Option.bind_some] at h
      dsimp only at h
      rw [triInt (by omega),mk_nat (by omega),mk_nat (by omega)] at h
      simp only [Option.bind_some,nf_zero] at h
      cases ho:iter (T_lower_Factor_b29 (n:Int) l) FU (0,0,0,List.replicate n 0,List.replicate n 0,List.replicate (tri n) 0) with
      | none=>rw [ho] at h;cases h
      | some o=>
        rw [ho,Option.bind_some] at h
        rcases cols_run hn hl ho with ⟨D',L',rfl,hF⟩ | hne
        · simp at h
          obtain ⟨rfl,rfl,rfl,_⟩:=h
          exact ⟨n,rfl,rfl,rfl,⟨hn,hl,hsym,hf⟩,hF⟩
        · obtain ⟨e,e2,D',L'⟩:=o
          have hne:e≠0:=hne
          dsimp only at h
          rw [cond_t (by simpa using hne)] at h
          simp at h
          exact absurd h.2.2.2.1 hne
    · rw [if_neg hf,Option.bind_some] at h
      simp at h
end Go.Eng
/-
  The package lower on the plain side: Factor always answers, and with which errors; the law's small matrices are right and symmetric. No condition.
-/
set_option maxRecDepth 100000
set_option maxHeartbeats 4000000
namespace Go.Eng
open Go
section
variable {a:List Nat} {n:Nat} (hn:n≤48) (ha:a.length=n*n)
include hn ha
theorem b38_ends {j:Nat} (hj:j<n) {L D D2 v:List Nat} (hL:L.length=tri n) (hD2:D2.length=n) (hv:v.length=n) (hV:∀ k,k<j→v.getD k 0=vsN L D j k) :
    ∃ o:OutC,iter (T_lower_Factor_b38 (n:Int) a (j:Int) v D2) FU (0,0,((j+1:Nat):Int),L)=some o∧True:=by
  refine iter_ends (b:=T_lower_Factor_b38 (n:Int) a (j:Int) v D2) (fun s=>∃ (i:Nat) (L':List Nat),j<i∧i≤n∧s=(0,0,((i:Nat):Int),L')∧L'.length=tri n) (fun s=>n-s.2.2.1.toNat) (fun _=>True) ?_ FU _ ⟨j+1,L,by omega,by omega,rfl,hL⟩ (by rw [FU_eq];dsimp only;omega)
  rintro s ⟨i,L',hji,hin,rfl,hL'⟩
  by_cases e:i=n
  · subst e
    exact .inr ⟨_,b38_stop hn ha,trivial⟩
  · have hi:i<n:=by omega
    rw [b38_step hn ha hi hji hL hD2 hv hV hL' rfl]
    cases finQ (fdiv (subS (fun k=>lowG L' i k) (vsN L D j) (a.getD (i*n+j) 0) j) (D2.getD j 0)) with
    | false=>exact .inr ⟨_,rfl,trivial⟩
    | true=>exact .inl ⟨_,rfl,⟨i+1,_,by omega,by omega,rfl,by simpa using hL'⟩,by dsimp only;omega⟩
theorem b29_ends:∃ o:Int×Int×List Nat×List Nat,iter (T_lower_Factor_b29 (n:Int) a) FU (0,0,0,List.replicate n 0,List.replicate n 0,List.replicate (tri n) 0)=some o∧(o.1=0∨o.1=220∨o.1=6):=by
  refine iter_ends (b:=T_lower_Factor_b29 (n:Int) a) (fun s=>∃ (j:Nat) (v D L:List Nat),j≤n∧s=(0,0,((j:Nat):Int),v,D,L)∧v.length=n∧D.length=n∧L.length=tri n) (fun s=>n-s.2.2.1.toNat) (fun o=>o.1=0∨o.1=220∨o.1=6) ?_ FU _
    ⟨0,_,_,_,by omega,rfl,List.length_replicate,List.length_replicate,List.length_replicate⟩ (by rw [FU_eq];dsimp only;omega)
  rintro s ⟨j,v,D,L,hjn,rfl,hv,hD,hL⟩
  by_cases e:j=n
  · subst e
    exact .inr ⟨_,b29_stop hn ha,.inl rfl⟩
  · have hj:j<n:=by omega
    obtain ⟨v',hv',hV',hb⟩:=b29_step hn ha hj hL hD hv
    generalize hS:colS a n L D j j=S at *
    rw [hb]
    cases hg:(fgt S 0&&finQ S) with
    | false=>exact .inr ⟨_,rfl,.inr (.inl rfl)⟩
    | true=>
      have hD2:(D.set j S).length=n:=by simpa using hD
      obtain ⟨o,ho,_⟩:=b38_ends hn ha hj hL hD2 hv' hV'
      rw [cT,ho,Option.bind_some]
      rcases below_run hn ha hj hL hD2 hv' hV' ho with ⟨L',rfl,hL',_,_⟩ | ⟨x,y,rfl⟩
      · exact .inl ⟨_,rfl,⟨j+1,v',_,L',by omega,rfl,hv',hD2,hL'⟩,by dsimp only;omega⟩
      · exact .inr ⟨_,rfl,.inr (.inr rfl)⟩
end
theorem factor_ends {n:Nat} {l:List Nat} (hn:n≤48) (hl:l.length=n*n) (hs:∀ i j,i<n→j<n→l.getD (i*n+j) 0=l.getD (j*n+i) 0) :
    ∃ t L D e x,T_lower_Factor n n l=some (t,L,D,e,x)∧(e=0∨e=5∨e=220∨e=6):=by
  have hnn:n*n≤2304:=Nat.le_trans (Nat.mul_le_mul hn hn) (by omega)
  have ht:=tri_le hn
  have hS:symB n n l=true:=by
    unfold symB
    simp only [Bool.and_eq_true,beq_iff_eq,Int.toNat_natCast]
    refine ⟨⟨?_,trivial⟩,(grid_of hl fun i j hi hj=>hs i j hi hj).symm⟩
    unfold rightB
    have e:((n*n:Nat):Int)=(n:Int)*n:=by simp
    simp [hl]
    omega
  unfold T_lower_Factor
  rw [symm_t,hS,Option.bind_some,Bool.not_true,cF,Option.bind_some,scan_t (by omega)]
  by_cases hf:∀ i,i<l.length→finQ (l.getD i 0)=true
  · rw [if_pos hf,Option.bind_some]
    dsimp only
    rw [triInt (by omega),mk_nat (by omega),mk_nat (by omega)]
    simp only [Option.bind_some,nf_zero]
    obtain ⟨⟨e,e2,D',L'⟩,h1,h2⟩:=b29_ends hn hl
    rw [h1,Option.bind_some]
    dsimp only
    have h2:e=0∨e=220∨e=6:=h2
    rcases h2 with rfl | rfl | rfl
    · exact ⟨_,_,_,_,_,rfl,.inl rfl⟩
    · exact ⟨_,_,_,_,_,rfl,.inr (.inr (.inl rfl))⟩
    · exact ⟨_,_,_,_,_,rfl,.inr (.inr (.inr rfl))⟩
  · rw [if_neg hf,Option.bind_some]
    exact ⟨_,_,_,_,_,rfl,.inr (.inl rfl)⟩
def SymL (m:Nat) (t:List Nat):Prop:=t.length=m*m∧∀ i j,i<m→j<m→t.getD (i*m+j) 0=t.getD (j*m+i) 0
theorem idx_inj {m i j i' j':Nat} (hj:j<m) (hj':j'<m) (h:i*m+j=i'*m+j'):i=i'∧j=j':=by
  have h1:i=i':=by
    have a:=congrArg (· / m) h
    simp only [Nat.mul_comm i,Nat.mul_comm i'] at a
    rwa [Nat.mul_add_div (by omega),Nat.mul_add_div (by omega),Nat.div_eq_of_lt hj,Nat.div_eq_of_lt hj'] at a
  subst h1
  exact ⟨rfl,by omega⟩
theorem sym_set {m:Nat} {t:List Nat} {i k x:Nat} (ht:SymL m t) (hi:i<m) (hk:k<m):SymL m ((t.set (i*m+k) x).set (k*m+i) x):=by
  have x1:=idxL hi hk
  have x2:=idxL hk hi
  refine ⟨by simpa using ht.1,fun p q hp hq=>?_⟩
  have y1:=idxL hp hq
  have y2:=idxL hq hp
  have get:∀ r s,r<m→s<m→((t.set (i*m+k) x).set (k*m+i) x).getD (r*m+s) 0=if (r=k∧s=i)∨(r=i∧s=k) then x else t.getD (r*m+s) 0:=by
    intro r s hr hs
    have z1:=idxL hr hs
    rw [set_getD (by rw [List.length_set,ht.1];exact x2),set_getD (by rw [ht.1];exact x1)]
    by_cases c1:r*m+s=k*m+i
    · obtain ⟨rfl,rfl⟩:=idx_inj hs hi c1
      rw [if_pos rfl,if_pos (.inl ⟨rfl,rfl⟩)]
    · rw [if_neg c1]
      by_cases c2:r*m+s=i*m+k
      · obtain ⟨rfl,rfl⟩:=idx_inj hs hk c2
        rw [if_pos rfl,if_pos (.inr ⟨rfl,rfl⟩)]
      · rw [if_neg c2,if_neg]
        rintro (⟨rfl,rfl⟩ | ⟨rfl,rfl⟩)
        · exact c1 rfl
        · exact c2 rfl
  rw [get p q hp hq,get q p hq hp]
  by_cases c:(p=k∧q=i)∨(p=i∧q=k)
  · rw [if_pos c,if_pos (by rcases c with ⟨a,b⟩ | ⟨a,b⟩<;>first | exact .inr ⟨b,a⟩ | exact .inl ⟨b,a⟩)]
  · rw [if_neg c,if_neg (fun h=>c (by rcases h with ⟨a,b⟩ | ⟨a,b⟩<;>first | exact .inr ⟨b,a⟩ | exact .inl ⟨b,a⟩)),ht.2 p q hp hq]
theorem mirrored_sym {q r a b:Int} {l x:List Nat} (h:T_w12_mirrored q r l=some (a,b,x)):∃ m:Nat,a=m∧b=m∧m≤48∧SymL m x:=by
  unfold T_w12_mirrored at h
  cases h0:iter (T_w12_mirrored_b2 l q) FU 0 with
  | none=>rw [h0] at h;cases h
  | some z=>
    rw [h0,Option.bind_some] at h
    have hz:∃ m:Nat,z=(m:Int)∧m≤48∧m*m≤l.length:=by
      refine iter_keep (b:=T_w12_mirrored_b2 l q) (fun s=>∃ m:Nat,s=(m:Int)∧m≤48∧m*m≤l.length) (fun o=>∃ m:Nat,o=(m:Int)∧m≤48∧m*m≤l.length) ?_ ?_ FU 0 z ⟨0,rfl,by omega,by omega⟩ h0
      · rintro s ⟨m,rfl,hm,hml⟩ t ht
        unfold T_w12_mirrored_b2 at ht
        simp only [Option.bind_some] at ht
        by_cases c1:(m:Int)<48
        · have hb:(m+1)*(m+1)≤48*48:=Nat.mul_le_mul (by omega) (by omega)
          rw [decide_eq_true c1,cT,wrU (by omega),wrMul (by omega)] at ht
          by_cases c2:(((m+1)*(m+1):Nat):Int)≤((l.length:Nat):Int)
          · rw [decide_eq_true c2,cT] at ht
            by_cases c3:(m:Int)<q
            · rw [decide_eq_true c3,cT] at ht
              cases ht
              exact ⟨m+1,rfl,by omega,by omega⟩
            · rw [decide_eq_false c3,cF] at ht;cases ht
          · rw [decide_eq_false c2,cF] at ht;cases ht
        · rw [decide_eq_false c1,cF] at ht;cases ht
      · rintro s ⟨m,rfl,hm,hml⟩ o ho
        unfold T_w12_mirrored_b2 at ho
        simp only [Option.bind_some] at ho
        by_cases c1:(m:Int)<48
        · have hb:(m+1)*(m+1)≤48*48:=Nat.mul_le_mul (by omega) (by omega)
          rw [decide_eq_true c1,cT,wrU (by omega),wrMul (by omega)] at ho
          by_cases c2:(((m+1)*(m+1):Nat):Int)≤((l.length:Nat):Int)
          · rw [decide_eq_true c2,cT] at ho
            by_cases c3:(m:Int)<q
            · rw [decide_eq_true c3,cT] at ho;cases ho
            · rw [decide_eq_false c3,cF] at ho;cases ho;exact ⟨m,rfl,hm,hml⟩
          · rw [decide_eq_false c2,cF] at ho;cases ho;exact ⟨m,rfl,hm,hml⟩
        · rw [decide_eq_false c1,cF] at ho;cases ho;exact ⟨m,rfl,hm,hml⟩
    obtain ⟨m,rfl,hm,hml⟩:=hz
    have hmm:m*m≤2304:=Nat.le_trans (Nat.mul_le_mul hm hm) (by omega)
    rw [wrMul (by omega),mk_nat (by omega),Option.bind_some] at h
    cases ho:iter (T_w12_mirrored_b9 (m:Int) l) FU (0,List.replicate (m*m) (nf 0)) with
    | none=>rw [ho] at h;cases h
    | some o=>
      rw [ho] at h
      cases h
      refine ⟨m,rfl,rfl,hm,?_⟩
      have st:SymL m (List.replicate (m*m) (nf 0)):=⟨List.length_replicate,fun i j hi hj=>by
        have y1:=idxL hi hj
        have y2:=idxL hj hi
        simp [List.getD_eq_getElem?_getD,List.getElem?_replicate,y1,y2]⟩
      have inner:∀ i,i<m→∀ t:List Nat,SymL m t→∀ o,iter (T_w12_mirrored_b11 (i:Int) l (m:Int)) FU (0,t)=some o→SymL m o:=by
        intro i hi t ht o ho
        refine iter_keep (b:=T_w12_mirrored_b11 (i:Int) l (m:Int)) (fun s=>∃ (k:Nat) (t:List Nat),k≤i+1∧s=((k:Int),t)∧SymL m t) (SymL m) ?_ ?_ FU _ o ⟨0,t,by omega,rfl,ht⟩ ho
        · rintro s ⟨k,t,hk,rfl,ht⟩ u hu
          by_cases c:k≤i
          · have hkm:k<m:=by omega
            have x1:=idxL hi hkm
            have x2:=idxL hkm hi
            have e:T_w12_mirrored_b11 (i:Int) l (m:Int) ((k:Int),t)=some (.inl (((k+1:Nat):Int),(t.set (i*m+k) (l.getD (i*m+k) 0)).set (k*m+i) (l.getD (i*m+k) 0))):=by
              unfold T_w12_mirrored_b11
              dsimp only
              rw [cond_t (by simp;omega),wrIdx hi hkm (by omega),at_getD 0 (by omega),Option.bind_some,at_getD 0 (by rw [ht.1];exact x1)]
              simp only [Option.bind_some,Int.toNat_natCast]
              rw [wrIdx hkm hi (by omega),at_getD 0 (by rw [List.length_set,ht.1];exact x2)]
              simp only [Option.bind_some,Int.toNat_natCast]
              rw [wrU (by omega)]
            rw [e] at hu
            cases hu
            exact ⟨k+1,_,by omega,rfl,sym_set ht hi hkm⟩
          · unfold T_w12_mirrored_b11 at hu
            dsimp only at hu
            rw [cond_f (by simp;omega)] at hu
            cases hu
        · rintro s ⟨k,t,hk,rfl,ht⟩ u hu
          by_cases c:k≤i
          · have hkm:k<m:=by omega
            have x1:=idxL hi hkm
            have x2:=idxL hkm hi
            unfold T_w12_mirrored_b11 at hu
            dsimp only at hu
            rw [cond_t (by simp;omega),wrIdx hi hkm (by omega),at_getD 0 (by omega),Option.bind_some,at_getD 0 (by rw [ht.1];exact x1)] at hu
            simp only [Option.bind_some,Int.toNat_natCast] at hu
            rw [wrIdx hkm hi (by omega),at_getD 0 (by rw [List.length_set,ht.1];exact x2)] at hu
            simp only [Option.bind_some] at hu
            cases hu
          · unfold T_w12_mirrored_b11 at hu
            dsimp only at hu
            rw [cond_f (by simp;omega)] at hu
            cases hu
            exact ht
      refine iter_keep (b:=T_w12_mirrored_b9 (m:Int) l) (fun s=>∃ (k:Nat) (t:List Nat),k≤m∧s=((k:Int),t)∧SymL m t) (SymL m) ?_ ?_ FU _ x ⟨0,_,by omega,rfl,st⟩ ho
      · rintro s ⟨k,t,hk,rfl,ht⟩ u hu
        unfold T_w12_mirrored_b9 at hu
        dsimp only at hu
        by_cases c:k<m
        · rw [cond_t (by simp;omega)] at hu
          cases hi:iter (T_w12_mirrored_b11 (k:Int) l (m:Int)) FU (0,t) with
          | none=>rw [hi] at hu;cases hu
          | some o=>
            rw [hi,Option.bind_some,wrU (by omega)] at hu
            cases hu
            exact ⟨k+1,o,by omega,rfl,inner k c t ht o hi⟩
        · rw [cond_f (by simp;omega)] at hu;cases hu
      · rintro s ⟨k,t,hk,rfl,ht⟩ u hu
        unfold T_w12_mirrored_b9 at hu
        dsimp only at hu
        by_cases c:k<m
        · rw [cond_t (by simp;omega)] at hu
          cases hi:iter (T_w12_mirrored_b11 (k:Int) l (m:Int)) FU (0,t) with
          | none=>rw [hi] at hu;cases hu
          | some o=>rw [hi] at hu;cases hu
        · rw [cond_f (by simp;omega)] at hu
          cases hu
          exact ht
theorem small_sym (q r:Int) (l:List Nat):∃ (n:Nat) (x:List Nat),n≤8∧T_w12_small q r l=some ((n:Int),(n:Int),x)∧SymL n x:=by
  obtain ⟨⟨a,b,x⟩,h⟩:=mirrored_some q r l
  obtain ⟨m,rfl,rfl,hm,hs⟩:=mirrored_sym h
  unfold T_w12_small
  rw [h,Option.bind_some]
  dsimp only
  have hmin:∃ n:Nat,(if (8:Int)<(m:Int) then 8 else (m:Int))=(n:Int)∧n≤8∧n≤m:=by
    by_cases c:(8:Int)<(m:Int)
    · rw [if_pos c];exact ⟨8,rfl,by omega,by omega⟩
    · rw [if_neg c];exact ⟨m,rfl,by omega,by omega⟩
  obtain ⟨n,hn,h8,hnm⟩:=hmin
  have hnn:n*n≤8*8:=Nat.mul_le_mul h8 h8
  have hmm:m*m≤2304:=Nat.le_trans (Nat.mul_le_mul hm hm) (by omega)
  rw [hn,wrMul (by omega),mk_nat (by omega),Option.bind_some]
  have key:∃ o o',iter (T_w12_small_b2 (m:Int) x (m:Int)) FU (0,List.replicate (n*n) (nf 0))=some o∧iter (T_w12_small_b2 (m:Int) x (m:Int)) FU (0,List.replicate (n*n) (nf 0))=some o'∧(o.length=n*n∧∀ p k,p<n→k<n→o.getD (p*n+k) 0=x.getD (p*m+k) 0):=by
    refine iter_two (b:=T_w12_small_b2 (m:Int) x (m:Int)) (b':=T_w12_small_b2 (m:Int) x (m:Int)) (fun i s s'=>s'=s∧∃ t:List Nat,s=((i:Int),t)∧t.length=n*n∧∀ p k,p<i→p<n→k<n→t.getD (p*n+k) 0=x.getD (p*m+k) 0) (fun o _=>o.length=n*n∧∀ p k,p<n→k<n→o.getD (p*n+k) 0=x.getD (p*m+k) 0) n ?_ ?_ 0 FU FU _ _ (by omega) (by rw [FU_eq];omega) (by rw [FU_eq];omega) ⟨rfl,_,rfl,List.length_replicate,fun p k h=>by omega⟩
    · rintro i s s' hi ⟨rfl,t,rfl,lt,ht⟩
      have b1:(i+1)*n≤n*n:=Nat.mul_le_mul_right _ hi
      have b2:(i+1)*m≤m*m:=Nat.mul_le_mul_right _ (by omega)
      rw [Nat.succ_mul] at b1 b2
      have e:T_w12_small_b2 (m:Int) x (m:Int) ((i:Int),t)=some (.inl (((i+1:Nat):Int),copAt t (i*n) ((x.drop (i*m)).take n))):=by
        unfold T_w12_small_b2
        dsimp only
        rw [hn,cond_t (by rw [decide_eq_true_eq];omega)]
        simp only [Option.bind_some]
        rw [wrMul (by omega),sub_nat (by omega) (by omega),Option.bind_some,wrMul (by omega),show IntKind.i64.wrap (((i*m:Nat):Int)+(n:Int))=((i*m+n:Nat):Int) by rw [wrI (by omega) (by omega)];omega,sub_nat (by omega) (by rw [hs.1];omega),Option.bind_some,Int.toNat_natCast,wrU (by omega),show i*m+n-i*m=n by omega]
      have lc:(copAt t (i*n) ((x.drop (i*m)).take n)).length=n*n:=by
        unfold copAt copL
        simp
        omega
      refine .inl ⟨_,_,e,e,rfl,_,rfl,lc,fun p k hp hpn hk=>?_⟩
      have l2:((x.drop (i*m)).take n).length=n:=by rw [List.length_take,List.length_drop,hs.1];omega
      have yp:=idxL hpn hk
      unfold copAt copL
      by_cases c:p=i
      · subst c
        have lt2:(t.take (p*n)).length=p*n:=by rw [List.length_take,lt];omega
        rw [List.getD_eq_getElem?_getD,List.getElem?_append_right (by rw [lt2];omega),lt2,show p*n+k-p*n=k by omega,List.getElem?_append_left (by rw [List.length_take,l2,List.length_drop];omega),List.getElem?_take,if_pos (by rw [List.length_drop];omega),List.getElem?_take,if_pos hk,List.getElem?_drop]
        rw [List.getD_eq_getElem?_getD]
      · have hpi:p<i:=by omega
        have:(p+1)*n≤i*n:=Nat.mul_le_mul_right _ hpi
        rw [Nat.succ_mul] at this
        rw [List.getD_eq_getElem?_getD,List.getElem?_append_left (by rw [List.length_take];omega),List.getElem?_take,if_pos (by omega),← List.getD_eq_getElem?_getD]
        exact ht p k hpi hpn hk
    · rintro s s' ⟨rfl,t,rfl,lt,ht⟩
      have e:T_w12_small_b2 (m:Int) x (m:Int) ((n:Int),t)=some (.inr t):=by
        unfold T_w12_small_b2
        dsimp only
        rw [hn,cond_f (by rw [decide_eq_false_iff_not];omega)]
      exact ⟨t,t,e,e,lt,fun p k hp hk=>ht p k hp hp hk⟩
  obtain ⟨o,_,ho,_,lo,so⟩:=key
  rw [ho]
  refine ⟨n,o,h8,rfl,lo,fun i j hi hj=>?_⟩
  rw [so i j hi hj,so j i hj hi,hs.2 i j (by omega) (by omega)]
end Go.Eng
