/-
  Sums of rationals, systems of homogeneous equations, the law of inertia. No condition.
-/
open Rat renaming intCast_mul→AA,intCast_add→AB,mul_nonneg→AD,intCast_zero→AE,mul_pos→AH,intCast_lt_intCast→AM
open List renaming filter_congr→AC,mem_append_left→AG,countP_eq_length_filter→AI,length_append→AJ,filter_cons_of_pos→AK,filter_cons_of_neg→AL,mem_append_right→AN,filter_append→AO,length_range→AP,range_succ→AQ
open Nat renaming le_refl→AF
namespace Go.Ine
def sm:Nat→(Nat→Rat)→Rat
 | 0,_=>0
 | n+1,f=>sm n f+f n
theorem Aa2 {f g:Nat→Rat}:∀ {n:Nat},(∀ k,k<n→f k=g k)→sm n f=sm n g
 | 0,_=>rfl
 | n+1,h=>by
   unfold sm
   rw [Aa2 (n:=n) fun k hk=>h k (by omega),h n (by omega)]
theorem Am4 {f:Nat→Rat} {n:Nat} (h:∀ k,k<n→f k=0):sm n f=0:=by
 rw [Aa2 (g:=fun _=>0) h]
 clear h
 induction n with
 | zero=>rfl
 | succ n ih=>unfold sm;rw [ih];grind
theorem Ai2 (f g:Nat→Rat):∀ n,sm n (fun k=>f k+g k)=sm n f+sm n g
 | 0=>by unfold sm;grind
 | n+1=>by unfold sm;rw [Ai2 f g n];grind
theorem Ab9 (c:Rat) (f:Nat→Rat):∀ n,sm n (fun k=>c*f k)=c*sm n f
 | 0=>by unfold sm;grind
 | n+1=>by unfold sm;rw [Ab9 c f n];grind
theorem An0 (c:Rat) (f:Nat→Rat) (n:Nat):sm n (fun k=>f k*c)=sm n f*c:=by
 rw [Aa2 (g:=fun k=>c*f k) (fun k _=>by grind),Ab9];grind
theorem Ae9 (f:Nat→Nat→Rat) (n:Nat):∀ m,sm n (fun i=>sm m (fun j=>f i j))=sm m (fun j=>sm n (fun i=>f i j))
 | 0=>by
   show sm n (fun _=>0)=0
   exact Am4 fun _ _=>rfl
 | m+1=>by
   show sm n (fun i=>sm m (fun j=>f i j)+f i m)=sm m (fun j=>sm n (fun i=>f i j))+sm n (fun i=>f i m)
   rw [Ai2,Ae9 f n m]
theorem Al6 (f:Nat→Rat):∀ n,sm (n+1) f=f 0+sm n (fun k=>f (k+1))
 | 0=>by show 0+f 0=f 0+0;grind
 | n+1=>by
   show sm (n+1) f+f (n+1)=f 0+(sm n (fun k=>f (k+1))+f (n+1))
   rw [Al6 f n];grind
theorem Am0 {f:Nat→Rat} {n i:Nat} (hi:i<n) (h:∀ k,k<n→k≠i→f k=0):sm n f=f i:=by
 induction n with
 | zero=>omega
 | succ n ih=>
   unfold sm
   by_cases c:i=n
   · subst c
     rw [Am4 fun k hk=>h k (by omega) (by omega)];grind
   · rw [ih (by omega) fun k hk hne=>h k (by omega) hne,h n (by omega) (by omega)];grind
theorem An7 {f:Nat→Rat}:∀ {n:Nat},(∀ k,k<n→0≤f k)→0≤sm n f
 | 0,_=>by unfold sm;grind
 | n+1,h=>by
   have:=An7 (n:=n) fun k hk=>h k (by omega)
   have:=h n (by omega)
   unfold sm;grind
theorem Fx6 {f:Nat→Rat} {n i:Nat} (h:∀ k,k<n→0≤f k) (hi:i<n) (hp:0<f i):0<sm n f:=by
 induction n with
 | zero=>omega
 | succ n ih=>
   unfold sm
   by_cases c:i=n
   · subst c
     have:=An7 (n:=i) fun k hk=>h k (by omega)
     grind
   · have:=ih (fun k hk=>h k (by omega)) (by omega)
     have:=h n (by omega)
     grind
def skip (p k:Nat):Nat:=if k<p then k else k+1
theorem Fb8 (g:Nat→Rat) {p:Nat}:∀ {n:Nat},p≤n→sm (n+1) g=sm n (fun k=>g (skip p k))+g p
 | 0,h=>by
   obtain rfl:p=0:=by omega
   rfl
 | n+1,h=>by
   by_cases c:p=n+1
   · subst c
     show sm (n+1) g+g (n+1)=_
     rw [Aa2 (f:=fun k=>g (skip (n+1) k)) (g:=g) fun k hk=>by unfold skip;rw [if_pos hk]]
   · show sm (n+1) g+g (n+1)=(sm n (fun k=>g (skip p k))+g (skip p n))+g p
     rw [Fb8 g (p:=p) (n:=n) (by omega)]
     have e:skip p n=n+1:=by unfold skip;rw [if_neg (by omega)]
     rw [e];grind
theorem skip_ne' (p k:Nat):skip p k≠p:=by unfold skip;split<;>omega
theorem Dw6 (p k:Nat):(if skip p k<p then skip p k else skip p k-1)=k:=by
 unfold skip
 by_cases h:k<p
 · rw [if_pos h,if_pos h]
 · rw [if_neg h,if_neg (by omega)];omega
theorem Fc7:∀ (m:Nat) (L:List (Nat→Rat)) (c:Nat),L.length=m→L.length<c→∃ x:Nat→Rat,(∃ k,k<c∧x k≠0)∧∀ f∈L,sm c (fun k=>f k*x k)=0
 | _,[],c,_,h=>⟨fun _=>1,⟨0,by simpa using h,by decide⟩,fun f hf=>by cases hf⟩
 | 0,f::L,c,hm,h=>by simp at hm
 | m+1,f::L,c,hm,h=>by
   have hm':L.length=m:=by simpa using hm
   obtain ⟨c,rfl⟩:∃ d,c=d+1:=⟨c-1,by simp at h;omega⟩
   by_cases hz:∀ k,k<c+1→f k=0
   · obtain ⟨x,hx,hL⟩:=Fc7 m L (c+1) hm' (by simp at h;omega)
     refine ⟨x,hx,fun g hg=>?_⟩
     rcases List.mem_cons.1 hg with rfl | hg
     · exact Am4 fun k hk=>by rw [hz k hk];grind
     · exact hL g hg
   · obtain ⟨p,hp,hfp⟩:∃ p,p<c+1∧f p≠0:=by
      refine Classical.byContradiction fun hn=>hz fun k hk=>Classical.byContradiction fun e=>hn ⟨k,hk,e⟩
     obtain ⟨y,⟨a,j,i⟩,hL⟩:=Fc7 m (L.map fun g k=>f p*g (skip p k)-g p*f (skip p k)) c (by simpa using hm') (by simp at h ⊢;omega)
     refine ⟨fun k=>if k=p then-sm c (fun q=>f (skip p q)*y q) else f p*y (if k<p then k else k-1),⟨skip p a,?_,?_⟩,fun g hg=>?_⟩
     · unfold skip;split<;>omega
     · show (if skip p a=p then _ else f p*y (if skip p a<p then skip p a else skip p a-1))≠0
       rw [if_neg (skip_ne' p a),Dw6]
       intro b
       rcases Rat.mul_eq_zero.1 b with b | b
       · exact hfp b
       · exact i b
     · have val:∀ q,(fun k=>if k=p then-sm c (fun q=>f (skip p q)*y q) else f p*y (if k<p then k else k-1)) (skip p q)=f p*y q:=fun q=>by
        show (if skip p q=p then _ else f p*y (if skip p q<p then skip p q else skip p q-1))=_
        rw [if_neg (skip_ne' p q),Dw6]
       rw [Fb8 (p:=p) _ (by omega)]
       rw [Aa2 (g:=fun q=>f p*(g (skip p q)*y q)) fun q _=>by
        show g (skip p q)*(fun k=>if k=p then-sm c (fun q=>f (skip p q)*y q) else f p*y (if k<p then k else k-1)) (skip p q)=_
        rw [val];grind]
       rw [Ab9]
       show f p*sm c (fun q=>g (skip p q)*y q)+g p*(if p=p then-sm c (fun q=>f (skip p q)*y q) else _)=0
       rw [if_pos rfl]
       rcases List.mem_cons.1 hg with rfl | hg
       · grind
       · have:=hL _ (List.mem_map.2 ⟨g,hg,rfl⟩)
         rw [Aa2 (g:=fun q=>f p*(g (skip p q)*y q) + - g p*(f (skip p q)*y q)) fun q _=>by grind,Ai2,Ab9,Ab9] at this
         grind
theorem Gs7 (L:List (Nat→Rat)) (c:Nat) (h:L.length<c):∃ x:Nat→Rat,(∃ k,k<c∧x k≠0)∧∀ f∈L,sm c (fun k=>f k*x k)=0:=Fc7 L.length L c rfl h
def bil (n:Nat) (A:Nat→Nat→Rat) (x y:Nat→Rat):Rat:=sm n fun i=>sm n fun j=>x i*A i j*y j
def lc (n:Nat) (c:Nat→Rat) (W:Nat→Nat→Rat):Nat→Rat:=fun k=>sm n fun i=>c i*W i k
theorem Fo9 (n:Nat) (A:Nat→Nat→Rat) (m:Nat) (c:Nat→Rat) (W:Nat→Nat→Rat) (y:Nat→Rat):bil n A (lc m c W) y=sm m fun i=>c i*bil n A (W i) y:=by
 unfold bil lc
 rw [Aa2 (g:=fun i=>sm m fun k=>c k*sm n fun j=>W k i*A i j*y j) fun i _=>?_,Ae9]
 · exact Aa2 fun k _=>by rw [Ab9]
 · rw [Aa2 (g:=fun j=>sm m fun k=>c k*(W k i*A i j*y j)) fun j _=>?_,Ae9]
   · exact Aa2 fun k _=>by rw [Ab9]
   · rw [show sm m (fun k=>c k*W k i)*A i j*y j=sm m (fun k=>c k*W k i)*(A i j*y j) by grind,← An0]
     exact Aa2 fun k _=>by grind
theorem Fw7 (n:Nat) (A:Nat→Nat→Rat) (m:Nat) (c:Nat→Rat) (W:Nat→Nat→Rat) (x:Nat→Rat):bil n A x (lc m c W)=sm m fun i=>c i*bil n A x (W i):=by
 unfold bil lc
 rw [Aa2 (g:=fun i=>sm m fun k=>c k*sm n fun j=>x i*A i j*W k j) fun i _=>?_,Ae9]
 · exact Aa2 fun k _=>by rw [Ab9]
 · rw [Aa2 (g:=fun j=>sm m fun k=>c k*(x i*A i j*W k j)) fun j _=>?_,Ae9]
   · exact Aa2 fun k _=>by rw [Ab9]
   · rw [← Ab9]
     exact Aa2 fun k _=>by grind
structure Diag (n:Nat) (A:Nat→Nat→Rat) (W:Nat→Nat→Rat) (d:Nat→Rat):Prop where
 is:∀ i j,i<n→j<n→bil n A (W i) (W j)=if i=j then d i else 0
 ind:∀ c:Nat→Rat,(∀ k,k<n→lc n c W k=0)→∀ i,i<n→c i=0
theorem Diag.val {n:Nat} {A W:Nat→Nat→Rat} {d:Nat→Rat} (h:Diag n A W d) (c:Nat→Rat):bil n A (lc n c W) (lc n c W)=sm n fun i=>d i*(c i*c i):=by
 rw [Fo9]
 refine Aa2 fun i hi=>?_
 rw [Fw7,Am0 hi fun k hk hne=>?_,h.is i i hi hi,if_pos rfl]
 · grind
 · rw [h.is i k hi hk,if_neg (by omega)];grind
def Dc0 (n:Nat) (d:Nat→Rat):Nat:=((List.range n).filter fun i=>decide (0<d i)).length
def Db3 (n:Nat) (d:Nat→Rat):Nat:=((List.range n).filter fun i=>decide (d i<0)).length
theorem Fe2 {n:Nat} {A:Nat→Nat→Rat} {x y x' y':Nat→Rat} (hx:∀ k,k<n→x k=x' k) (hy:∀ k,k<n→y k=y' k):bil n A x y=bil n A x' y':=
 Aa2 fun i hi=>Aa2 fun j hj=>by rw [hx i hi,hy j hj]
theorem Gx2 {a b:Rat} (h:a + -1*b=0):a=b:=by grind
theorem Gv3 (a b:Rat) : - a*b = -1*(b*a):=by grind
theorem Ad0 (t:Rat):0≤t*t:=by
 rcases Rat.le_total (a:=0) (b:=t) with h | h
 · exact AD h h
 · have:t*t=(-t)*(-t):=by grind
   rw [this]
   exact AD (by grind) (by grind)
theorem Fx5 {t:Rat} (h:t≠0):0<t*t:=by
 have b:=Ad0 t
 have c:t*t≠0:=fun a=>by rcases Rat.mul_eq_zero.1 a with a | a<;>exact h a
 grind
theorem neg_pos' {a:Rat} (h:a<0):0 < - a:=by grind
theorem Gl2 {a b:Rat} (c:0 < -1*a) (d:0≤b) (e:b≤a):False:=by grind
theorem zero_mul' (a:Rat) (b:Rat) (h:b=0):0≤a*(b*b):=by rw [h];grind
theorem Gw8 {n:Nat} {A B W W':Nat→Nat→Rat} {d d':Nat→Rat} (h:Diag n A W d) (h':Diag n B W' d') (hle:∀ v,bil n B v v≤bil n A v v):Db3 n d≤Db3 n d':=by
 refine Nat.le_of_not_lt fun hlt=>?_
 -- unknowns: c for the first n places, e for the others
 let Bg7 (p:Nat):Nat→Rat:=fun k=>if k=p then 1 else 0
 let eqs:List (Nat→Rat):=((List.range n).map fun k q=>if q<n then W q k else-W' (q-n) k) ++
  (((List.range n).filter fun i => ! decide (d i<0)).map fun i=>Bg7 i)++(((List.range n).filter fun i=>decide (d' i<0)).map fun i=>Bg7 (n+i))
 have hl:eqs.length<n+n:=by
  have e:=List.length_eq_countP_add_countP (fun i=>decide (d i<0)) (l:=List.range n)
  rw [AI,AI,AP] at e
  have r:(List.filter (fun a=>decide (¬ (decide (d a<0))=true)) (List.range n)).length=(List.filter (fun i => ! decide (d i<0)) (List.range n)).length:=by
   congr 1
   refine AC fun x _=>?_
   cases decide (d x<0)<;>rfl
  rw [r] at e
  simp only [eqs,AJ,List.length_map,AP]
  unfold Db3 at hlt
  omega
 obtain ⟨x,⟨b,aa,j⟩,hx⟩:=Gs7 eqs (n+n) hl
 have s:∀ f:Nat→Rat,sm (n+n) f=sm n f+sm n fun k=>f (n+k):=by
  intro f
  have key:∀ m,sm (n+m) f=sm n f+sm m fun k=>f (n+k):=by
   intro m
   induction m with
   | zero=>show sm n f=sm n f+0;grind
   | succ m ih=>
     show sm (n+m) f+f (n+m)=sm n f+(sm m (fun k=>f (n+k))+f (n+m))
     rw [ih];grind
  exact key n
 have one:∀ p,p<n+n→Bg7 p∈eqs→x p=0:=fun p hp hm=>by
  have g:=hx _ hm
  rw [Am0 hp fun k _ hne=>by simp [Bg7,hne]] at g
  simpa [Bg7] using g
 have same:∀ k,k<n→lc n x W k=lc n (fun i=>x (n+i)) W' k:=fun k hk=>by
  have g:=hx (fun q=>if q<n then W q k else-W' (q-n) k) (by
   refine AG _ (AG _ ?_)
   exact List.mem_map.2 ⟨k,List.mem_range.2 hk,rfl⟩)
  rw [s] at g
  have t:sm n (fun q=>(if q<n then W q k else-W' (q-n) k)*x q)=lc n x W k:=Aa2 fun q hq=>by
   show (if q<n then W q k else-W' (q-n) k)*x q=x q*W q k
   rw [if_pos hq,Rat.mul_comm]
  have u:sm n (fun q=>(if n+q<n then W (n+q) k else-W' (n+q-n) k)*x (n+q)) = -1*lc n (fun i=>x (n+i)) W' k:=by
   unfold lc
   rw [← Ab9]
   refine Aa2 fun q hq=>?_
   show (if n+q<n then W (n+q) k else-W' (n+q-n) k)*x (n+q) = -1*(x (n+q)*W' q k)
   rw [if_neg (by omega),show n+q-n=q by omega]
   exact Gv3 _ _
  have y:lc n x W k + -1*lc n (fun i=>x (n+i)) W' k=0:=by rw [← t,← u];exact g
  exact Gx2 y
 have o:∀ i,i<n → ¬ d i<0→x i=0:=fun i hi hd=>one i (by omega) (by
  refine AG _ (AN _ ?_)
  exact List.mem_map.2 ⟨i,List.mem_filter.2 ⟨List.mem_range.2 hi,by simpa using hd⟩,rfl⟩)
 have e0:∀ i,i<n→d' i<0→x (n+i)=0:=fun i hi hd=>one (n+i) (by omega) (by
  refine AN _ ?_
  exact List.mem_map.2 ⟨i,List.mem_filter.2 ⟨List.mem_range.2 hi,by simpa using hd⟩,rfl⟩)
 -- one of the first is not 0
 have ne:∃ i,i<n∧x i≠0:=by
  refine Classical.byContradiction fun hn=>?_
  have all:∀ i,i<n→x i=0:=fun i hi=>Classical.byContradiction fun h=>hn ⟨i,hi,h⟩
  have z:∀ k,k<n→lc n (fun i=>x (n+i)) W' k=0:=fun k hk=>by
   rw [← same k hk]
   exact Am4 fun i hi=>by rw [all i hi];grind
  have all':=h'.ind _ z
  rcases Nat.lt_or_ge b n with c | c
  · exact j (all b c)
  · have:=all' (b-n) (by omega)
    rw [show n+(b-n)=b by omega] at this
    exact j this
 obtain ⟨i,hi,hxi⟩:=ne
 have hd:d i<0:=Classical.byContradiction fun h=>hxi (o i hi h)
 have va:=h.val x
 have vb:=h'.val fun i=>x (n+i)
 have ve:bil n B (lc n x W) (lc n x W)=bil n B (lc n (fun i=>x (n+i)) W') (lc n (fun i=>x (n+i)) W'):=Fe2 same same
 have le:=hle (lc n x W)
 rw [va,ve,vb] at le
 have neg:0<sm n fun i => - d i*(x i*x i):=Fx6 (i:=i) (fun k hk=>by
  by_cases hdk:d k<0
  · exact AD (Rat.le_of_lt (neg_pos' hdk)) (Ad0 _)
  · exact zero_mul' _ _ (o k hk hdk)) hi (AH (neg_pos' hd) (Fx5 hxi))
 have pos:0≤sm n fun i=>d' i*(x (n+i)*x (n+i)):=An7 fun k hk=>by
  by_cases hdk:d' k<0
  · exact zero_mul' _ _ (e0 k hk hdk)
  · exact AD (Rat.not_lt.1 hdk) (Ad0 _)
 have e:sm n (fun i => - d i*(x i*x i)) = -1*sm n fun i=>d i*(x i*x i):=by
  rw [← Ab9]
  refine Aa2 fun k _=>?_
  show-d k*(x k*x k) = -1*(d k*(x k*x k))
  rw [Rat.neg_mul,Rat.neg_mul,Rat.one_mul]
 rw [e] at neg
 exact Gl2 neg pos le
end Go.Ine
/-
  Determinants by the first column; what an elimination without fractions divides is divisible. No condition.
-/
namespace Go.Ine
def sg (i:Nat):Rat:=if i%2=0 then 1 else -1
theorem Gl4 (i:Nat):sg (i+1) = - sg i:=by
 unfold sg
 by_cases h:i%2=0
 · have a : ¬ (i+1)%2=0:=by omega
   simp only [h,a,if_true,if_false]
 · have a:(i+1)%2=0:=by omega
   simp only [h,a,if_true,if_false]
   grind
def Bi1 (M:Nat→Nat→Rat) (i:Nat):Nat→Nat→Rat:=fun x y=>M (skip i x) (y+1)
def det:Nat→(Nat→Nat→Rat)→Rat
 | 0,_=>1
 | n+1,M=>sm (n+1) fun i=>sg i*M i 0*det n (Bi1 M i)
theorem Fk2 {i x n:Nat} (h:x<n):skip i x<n+1:=by unfold skip;split<;>omega
theorem Dn2 (i x:Nat):skip i x≠i:=by unfold skip;split<;>omega
theorem Bh9:∀ {n:Nat} {M N:Nat→Nat→Rat},(∀ x y,x<n→y<n→M x y=N x y)→det n M=det n N
 | 0,_,_,_=>rfl
 | n+1,M,N,h=>by
   unfold det
   refine Aa2 fun i hi=>?_
   rw [h i 0 hi (by omega),Bh9 (n:=n) (M:=Bi1 M i) (N:=Bi1 N i) fun x y hx hy=>h _ _ (Fk2 hx) (by omega)]
theorem Fx1 {f:Nat→Rat}:∀ {n:Nat},(∀ k,k<n→∃ z:Int,f k=z)→∃ z:Int,sm n f=z
 | 0,_=>⟨0,rfl⟩
 | n+1,h=>by
   obtain ⟨a,ha⟩:=Fx1 (n:=n) fun k hk=>h k (by omega)
   obtain ⟨b,hb⟩:=h n (by omega)
   exact ⟨a+b,by unfold sm;rw [ha,hb,AB]⟩
theorem Fm1:∀ {n:Nat} {M:Nat→Nat→Rat},(∀ x y,x<n→y<n→∃ z:Int,M x y=z)→∃ z:Int,det n M=z
 | 0,_,_=>⟨1,rfl⟩
 | n+1,M,h=>by
   unfold det
   refine Fx1 fun i hi=>?_
   obtain ⟨a,ha⟩:=h i 0 hi (by omega)
   obtain ⟨b,hb⟩:=Fm1 (n:=n) (M:=Bi1 M i) fun x y hx hy=>h _ _ (Fk2 hx) (by omega)
   unfold sg
   split
   · exact ⟨a*b,by rw [ha,hb,AA];grind⟩
   · exact ⟨-(a*b),by rw [ha,hb,Rat.intCast_neg,AA];grind⟩
def Be7 (M:Nat→Nat→Rat) (r:Nat) (u:Nat→Rat):Nat→Nat→Rat:=fun x y=>if x=r then u y else M x y
theorem Bl2 (M:Nat→Nat→Rat) (r:Nat) (u:Nat→Rat):Bi1 (Be7 M r u) r=Bi1 M r:=by
 funext x y
 unfold Bi1 Be7
 rw [if_neg (Dn2 r x)]
theorem Bj6 (M:Nat→Nat→Rat) {r i:Nat} (u:Nat→Rat) (h:i≠r):Bi1 (Be7 M r u) i=Be7 (Bi1 M i) (if r<i then r else r-1) fun y=>u (y+1):=by
 funext x y
 unfold Bi1 Be7
 by_cases c:skip i x=r
 · rw [if_pos c,if_pos]
   unfold skip at c
   split at c<;>split<;>omega
 · rw [if_neg c,if_neg]
   unfold skip at c
   split at c<;>split<;>omega
theorem Dn9:∀ {n r:Nat} (M:Nat→Nat→Rat) (u v:Nat→Rat) (c:Rat),r<n→det n (Be7 M r fun y=>u y+c*v y)=det n (Be7 M r u)+c*det n (Be7 M r v)
 | 0,_,_,_,_,_,h=>by omega
 | n+1,r,M,u,v,c,h=>by
   unfold det
   rw [← Ab9,← Ai2]
   refine Aa2 fun i hi=>?_
   by_cases e:i=r
   · subst e
     rw [Bl2,Bl2,Bl2]
     unfold Be7
     rw [if_pos rfl,if_pos rfl,if_pos rfl]
     grind
   · rw [Bj6 M _ e,Bj6 M u e,Bj6 M v e,Dn9 (Bi1 M i) (fun y=>u (y+1)) (fun y=>v (y+1)) c (by split<;>omega)]
     unfold Be7
     rw [if_neg e,if_neg e,if_neg e]
     grind
theorem Di1 {f:Nat→Rat} {n i j:Nat} (hij:i<j) (hj:j<n) (h:∀ k,k<n→k≠i→k≠j→f k=0):sm n f=f i+f j:=by
 induction n with
 | zero=>omega
 | succ n ih=>
   unfold sm
   by_cases c:j=n
   · subst c
     rw [Am0 hij fun k hk hne=>h k (by omega) hne (by omega)]
   · rw [ih (by omega) fun k hk a b=>h k (by omega) a b,h n (by omega) (by omega) (by omega)];grind
theorem Dn0:∀ {n r:Nat} {M:Nat→Nat→Rat},r+1<n→(∀ y,M r y=M (r+1) y)→det n M=0
 | 0,_,_,h,_=>by omega
 | n+1,r,M,h,he=>by
   unfold det
   rw [Di1 (i:=r) (j:=r+1) (by omega) h fun i hi a b=>?_]
   · have em:det n (Bi1 M r)=det n (Bi1 M (r+1)):=Bh9 fun x y hx hy=>by
      unfold Bi1
      by_cases c:x=r
      · subst c
        rw [show skip x x=x+1 by unfold skip;rw [if_neg (by omega)],show skip (x+1) x=x by unfold skip;rw [if_pos (by omega)],he]
      · have:skip r x=skip (r+1) x:=by unfold skip;split<;>split<;>omega
        rw [this]
     rw [em,he 0,Gl4];grind
   · have:det n (Bi1 M i)=0:=by
      by_cases c:i<r
      · refine Dn0 (r:=r-1) (by omega) fun y=>?_
        unfold Bi1
        rw [show skip i (r-1)=r by unfold skip;rw [if_neg (by omega)];omega,show skip i (r-1+1)=r+1 by unfold skip;rw [if_neg (by omega)];omega,he]
      · refine Dn0 (r:=r) (by omega) fun y=>?_
        unfold Bi1
        rw [show skip i r=r by unfold skip;rw [if_pos (by omega)],show skip i (r+1)=r+1 by unfold skip;rw [if_pos (by omega)],he]
     rw [this];grind
theorem Co9 (M:Nat→Nat→Rat) (r:Nat):Be7 M r (M r)=M:=by
 funext x y
 unfold Be7
 split
 · rename_i h;rw [h]
 · rfl
theorem Cr6 (M:Nat→Nat→Rat) {r s:Nat} (h:r≠s) (u v:Nat→Rat):Be7 (Be7 M r u) s v=Be7 (Be7 M s v) r u:=by
 funext x y
 unfold Be7
 split<;>split<;>first | rfl | omega
theorem Fw2 {n r:Nat} (M:Nat→Nat→Rat) (u v:Nat→Rat) (h:r+1<n):det n (Be7 (Be7 M r u) (r+1) v) = - det n (Be7 (Be7 M r v) (r+1) u):=by
 have z:∀ w,det n (Be7 (Be7 M r w) (r+1) w)=0:=fun w=>Dn0 h fun y=>by
  unfold Be7
  rw [if_neg (by omega),if_pos rfl,if_pos rfl]
 have Gx2:∀ a b w,det n (Be7 (Be7 M r fun y=>a y+1*b y) (r+1) w)=det n (Be7 (Be7 M r a) (r+1) w)+1*det n (Be7 (Be7 M r b) (r+1) w):=fun a b w=>by
  have hne:r≠r+1:=by omega
  rw [Cr6 M hne (fun y=>a y+1*b y) w,Cr6 M hne a w,Cr6 M hne b w]
  exact Dn9 _ a b 1 (by omega)
 have Gv3:∀ a b w,det n (Be7 (Be7 M r w) (r+1) fun y=>a y+1*b y)=det n (Be7 (Be7 M r w) (r+1) a)+1*det n (Be7 (Be7 M r w) (r+1) b):=fun a b w=>Dn9 _ a b 1 h
 have e:=z fun y=>u y+1*v y
 rw [Gx2,Gv3,Gv3,z u,z v] at e
 grind
theorem Ey3:∀ {n i:Nat} {M:Nat→Nat→Rat},i+1<n→(∀ y,M 0 y=M (i+1) y)→det n M=0
 | n,0,M,h,he=>Dn0 (r:=0) h he
 | n,i+1,M,h,he=>by
   have a:M=Be7 (Be7 M (i+1) (M (i+1))) (i+1+1) (M (i+1+1)):=by rw [Co9,Co9]
   rw [a,Fw2 M _ _ h]
   have:det n (Be7 (Be7 M (i+1) (M (i+1+1))) (i+1+1) (M (i+1)))=0:=Ey3 (i:=i) (by omega) fun y=>by
    unfold Be7
    rw [if_neg (by omega),if_neg (by omega),if_neg (by omega),if_pos rfl]
    exact he y
   rw [this];grind
theorem Gt2 {n r:Nat} (M:Nat→Nat→Rat) (c:Rat) (a:0<r) (h:r<n):det n (Be7 M r fun y=>M r y+c*M 0 y)=det n M:=by
 rw [Dn9 M (M r) (M 0) c h,Co9]
 have:det n (Be7 M r (M 0))=0:=by
  obtain ⟨i,rfl⟩:∃ i,r=i+1:=⟨r-1,by omega⟩
  refine Ey3 (i:=i) h fun y=>?_
  unfold Be7
  rw [if_neg (by omega),if_pos rfl]
 rw [this];grind
def one (M:Nat→Nat→Rat):Nat→Nat→Rat:=fun x y=>M (x+1) (y+1)-M (x+1) 0*M 0 (y+1)/M 0 0
theorem Gh9 {n:Nat} {M:Nat→Nat→Rat} (h:M 0 0≠0):det (n+1) M=M 0 0*det n (one M):=by
 let red (k:Nat):Nat→Nat→Rat:=fun x y=>if 1≤x∧x≤k then M x y-M x 0/M 0 0*M 0 y else M x y
 have st:∀ k,k≤n→det (n+1) (red k)=det (n+1) M:=by
  intro k
  induction k with
  | zero=>
    intro _
    refine Bh9 fun x y _ _=>?_
    show (if 1≤x∧x≤0 then _ else M x y)=_
    rw [if_neg (by omega)]
  | succ k ih=>
    intro hk
    rw [← ih (by omega),← Gt2 (red k) (- (M (k+1) 0/M 0 0)) (show 0<k+1 by omega) (by omega)]
    refine Bh9 fun x y _ _=>?_
    show (if 1≤x∧x≤k+1 then _ else M x y)=(if x=k+1 then (if 1≤k+1∧k+1≤k then _ else M (k+1) y) + - (M (k+1) 0/M 0 0)*(if 1≤0∧0≤k then _ else M 0 y) else (if 1≤x∧x≤k then _ else M x y))
    by_cases c:x=k+1
    · subst c
      rw [if_pos (by omega),if_pos rfl,if_neg (by omega),if_neg (by omega)];grind
    · rw [if_neg c]
      by_cases a:1≤x∧x≤k
      · rw [if_pos (by omega),if_pos a]
      · rw [if_neg (by omega),if_neg a]
 rw [← st n (AF _),show det (n+1) (red n)=sm (n+1) (fun i=>sg i*red n i 0*det n (Bi1 (red n) i)) from rfl]
 rw [Am0 (i:=0) (by omega) fun k hk hne=>?_]
 · show sg 0*(if 1≤0∧0≤n then _ else M 0 0)*det n (Bi1 (red n) 0)=_
   rw [if_neg (by omega),show sg 0=1 from rfl,Bh9 (M:=Bi1 (red n) 0) (N:=one M) fun x y hx hy=>?_]
   · grind
   · show (if 1≤skip 0 x∧skip 0 x≤n then M (skip 0 x) (y+1)-M (skip 0 x) 0/M 0 0*M 0 (y+1) else _)=_
     have e:skip 0 x=x+1:=by unfold skip;rw [if_neg (by omega)]
     rw [e,if_pos (by omega)]
     unfold one
     grind
 · show sg k*(if 1≤k∧k≤n then M k 0-M k 0/M 0 0*M 0 0 else _)*_=0
   rw [if_pos (by omega)]
   have:M k 0-M k 0/M 0 0*M 0 0=0:=by grind
   rw [this];grind
def sch (C:Nat→Nat→Rat):Nat→Nat→Nat→Rat
 | 0,i,j=>C i j
 | k+1,i,j=>sch C k i j-sch C k i k*sch C k k j/sch C k k k
def prd (C:Nat→Nat→Rat):Nat→Rat
 | 0=>1
 | k+1=>prd C k*sch C k k k
theorem Bg2 (C:Nat→Nat→Rat):∀ k x y,sch (one C) k x y=sch C (k+1) (x+1) (y+1)
 | 0,_,_=>rfl
 | k+1,x,y=>by
   show sch (one C) k x y-sch (one C) k x k*sch (one C) k k y/sch (one C) k k k=_
   rw [Bg2 C k x y,Bg2 C k x k,Bg2 C k k y,Bg2 C k k k];rfl
theorem Fg4 (C:Nat→Nat→Rat):∀ k,prd C (k+1)=C 0 0*prd (one C) k
 | 0=>by show 1*C 0 0=C 0 0*1;grind
 | k+1=>by
   show prd C (k+1)*sch C (k+1) (k+1) (k+1)=C 0 0*(prd (one C) k*sch (one C) k k k)
   rw [Fg4 C k,Bg2];grind
def Fo4 (C:Nat→Nat→Rat) (k i j:Nat):Nat→Nat→Rat:=fun x y=>C (if x<k then x else i) (if y<k then y else j)
theorem Eo5:∀ (k:Nat) (C:Nat→Nat→Rat) (i j:Nat),k≤i→k≤j→(∀ m,m<k→sch C m m m≠0)→det (k+1) (Fo4 C k i j)=prd C k*sch C k i j
 | 0,C,i,j,_,_,_=>by
   show (0:Rat)+sg 0*C i j*1=1*C i j
   rw [show sg 0=1 from rfl];grind
 | k+1,C,i,j,hi,hj,h=>by
   have a:Fo4 C (k+1) i j 0 0=C 0 0:=by unfold Fo4;rw [if_pos (by omega),if_pos (by omega)]
   have hc:C 0 0≠0:=h 0 (by omega)
   rw [Gh9 (by rw [a];exact hc),a,Fg4]
   obtain ⟨i,rfl⟩:∃ q,i=q+1:=⟨i-1,by omega⟩
   obtain ⟨j,rfl⟩:∃ q,j=q+1:=⟨j-1,by omega⟩
   have ih:=Eo5 k (one C) i j (by omega) (by omega) fun m hm=>by rw [Bg2];exact h (m+1) (by omega)
   rw [← Bg2,Rat.mul_assoc,← ih]
   congr 1
   refine Bh9 fun x y hx hy=>?_
   unfold one
   rw [a]
   have b:(if x+1<k+1 then x+1 else i+1)=(if x<k then x else i)+1:=by split<;>split<;>omega
   have c:(if y+1<k+1 then y+1 else j+1)=(if y<k then y else j)+1:=by split<;>split<;>omega
   have d:Fo4 C (k+1) (i+1) (j+1) (x+1) (y+1)=C ((if x<k then x else i)+1) ((if y<k then y else j)+1):=by unfold Fo4;rw [b,c]
   have e:Fo4 C (k+1) (i+1) (j+1) (x+1) 0=C ((if x<k then x else i)+1) 0:=by unfold Fo4;rw [b,if_pos (show 0<k+1 by omega)]
   have f:Fo4 C (k+1) (i+1) (j+1) 0 (y+1)=C 0 ((if y<k then y else j)+1):=by unfold Fo4;rw [c,if_pos (show 0<k+1 by omega)]
   rw [d,e,f]
   rfl
theorem Gc6 {C:Nat→Nat→Rat} (hC:∀ x y,∃ z:Int,C x y=z) {k i j:Nat} (hi:k≤i) (hj:k≤j) (h:∀ m,m<k→sch C m m m≠0):∃ z:Int,prd C k*sch C k i j=z:=by
 rw [← Eo5 k C i j hi hj h]
 exact Fm1 fun x y _ _=>hC _ _
end Go.Ine
/-
  Signs of a symmetric matrix: what an elimination without fractions, with rows put together and exchanged, keeps; what it tells at its end. No condition.
-/
namespace Go.Ine
def Bg7 (i:Nat):Nat→Rat:=fun k=>if k=i then 1 else 0
theorem As9 {n:Nat} {C:Nat→Nat→Rat} {i j:Nat} (hi:i<n) (hj:j<n):bil n C (Bg7 i) (Bg7 j)=C i j:=by
 unfold bil
 rw [Am0 hi fun k hk hne=>Am4 fun q _=>by unfold Bg7;rw [if_neg hne];grind,Am0 hj fun k hk hne=>by unfold Bg7;rw [if_neg hne];grind]
 unfold Bg7;rw [if_pos rfl,if_pos rfl];grind
theorem Dr5 (n:Nat) (C:Nat→Nat→Rat) (x x' y:Nat→Rat):bil n C (fun k=>x k+x' k) y=bil n C x y+bil n C x' y:=by
 unfold bil
 rw [← Ai2]
 refine Aa2 fun i _=>?_
 rw [← Ai2]
 exact Aa2 fun j _=>by grind
theorem Cp0 (n:Nat) (C:Nat→Nat→Rat) (x y y':Nat→Rat):bil n C x (fun k=>y k+y' k)=bil n C x y+bil n C x y':=by
 unfold bil
 rw [← Ai2]
 refine Aa2 fun i _=>?_
 rw [← Ai2]
 exact Aa2 fun j _=>by grind
theorem Gw7 (n:Nat) (c:Nat→Rat) (W E:Nat→Nat→Rat) (q:Nat):lc n c (fun i=>lc n (W i) E) q=lc n (lc n c W) E q:=by
 unfold lc
 rw [Aa2 (g:=fun i=>sm n fun a=>c i*(W i a*E a q)) fun i _=>by rw [Ab9],Ae9]
 exact Aa2 fun a _=>by
  rw [← An0]
  exact Aa2 fun i _=>by grind
def Ex7 (n:Nat) (A C:Nat→Nat→Rat):Prop:=∀ W d,Diag n C W d→∃ W',Diag n A W' d
theorem Ex7.refl (n:Nat) (A:Nat→Nat→Rat):Ex7 n A A:=fun W _ h=>⟨W,h⟩
theorem Ex7.trans {n:Nat} {A B C:Nat→Nat→Rat} (h:Ex7 n A B) (k:Ex7 n B C):Ex7 n A C:=fun W d hd=>by
 obtain ⟨W',h'⟩:=k W d hd
 exact h W' d h'
theorem Eh4 {n:Nat} {A C E:Nat→Nat→Rat} (hE:∀ i j,i<n→j<n→C i j=bil n A (E i) (E j)) (ind:∀ c:Nat→Rat,(∀ k,k<n→lc n c E k=0)→∀ i,i<n→c i=0):Ex7 n A C:=by
 intro W d h
 refine ⟨fun i=>lc n (W i) E,⟨fun i j hi hj=>?_,fun c hc i hi=>?_⟩⟩
 · rw [← h.is i j hi hj,Fo9]
   show _=sm n fun a=>sm n fun b=>W i a*C a b*W j b
   refine Aa2 fun a ha=>?_
   rw [Fw7,← Ab9]
   exact Aa2 fun b hb=>by rw [hE a b ha hb];grind
 · refine h.ind c (fun k hk=>ind (lc n c W) (fun q hq=>?_) k hk) i hi
   rw [← Gw7]
   exact hc q hq
def Bq2 (a b:Nat) (C:Nat→Nat→Rat):Nat→Nat→Rat:=fun i j=>C i j+(if i=a then C b j else 0)+(if j=a then C i b else 0)+(if i=a∧j=a then C b b else 0)
theorem Fp1 {n a b:Nat} (C:Nat→Nat→Rat) (ha:a<n) (hb:b<n) (hab:a≠b):Ex7 n C (Bq2 a b C):=by
 let E:Nat→Nat→Rat:=fun i k=>Bg7 i k+if i=a then Bg7 b k else 0
 have d:∀ i,i≠a→E i=Bg7 i:=fun i h=>by funext k;show Bg7 i k+_=_;rw [if_neg h];grind
 have g:E a=fun k=>Bg7 a k+Bg7 b k:=by funext k;show Bg7 a k+_=_;rw [if_pos rfl]
 refine Eh4 (E:=E) (fun i j hi hj=>?_) (fun c hc=>?_)
 · unfold Bq2
   by_cases e:i=a
   · by_cases f:j=a
     · subst e;subst f
       rw [if_pos rfl,if_pos rfl,if_pos ⟨rfl,rfl⟩,g,Dr5,Cp0,Cp0,As9 ha ha,As9 ha hb,As9 hb ha,As9 hb hb]
       grind
     · subst e
       rw [if_pos rfl,if_neg f,if_neg (by rintro ⟨_,h⟩;exact f h),g,d j f,Dr5,As9 ha hj,As9 hb hj]
       grind
   · by_cases f:j=a
     · subst f
       rw [if_neg e,if_pos rfl,if_neg (by rintro ⟨h,_⟩;exact e h),g,d i e,Cp0,As9 hi ha,As9 hi hb]
       grind
     · rw [if_neg e,if_neg f,if_neg (by rintro ⟨h,_⟩;exact e h),d i e,d j f,As9 hi hj]
       grind
 · have val:∀ k,k<n→lc n c E k=c k+if k=b then c a else 0:=fun k hk=>by
    unfold lc
    by_cases hkb:k=b
    · subst hkb
      have hlt:a<k∨k<a:=by omega
      have z:∀ q,q<n→q≠a→q≠k→c q*E q k=0:=fun q _ l m=>by
       rw [d q l];unfold Bg7;rw [if_neg (by omega)];grind
      have va:E a k=1:=by rw [g];show Bg7 a k+Bg7 k k=1;unfold Bg7;rw [if_neg (by omega),if_pos rfl];grind
      have vk:E k k=1:=by rw [d k (by omega)];unfold Bg7;rw [if_pos rfl]
      rw [if_pos rfl]
      rcases hlt with h | h
      · rw [Di1 h hk fun q hq l m=>z q hq l m,va,vk];grind
      · rw [Di1 h ha fun q hq l m=>z q hq m l,va,vk];grind
    · rw [if_neg hkb,Am0 hk fun q hq hne=>?_]
      · have:E k k=1:=by
         by_cases h:k=a
         · subst h;rw [g];show Bg7 k k+Bg7 b k=1;unfold Bg7;rw [if_pos rfl,if_neg hkb];grind
         · rw [d k h];unfold Bg7;rw [if_pos rfl]
        rw [this];grind
      · by_cases h:q=a
        · subst h;rw [g];show c q*(Bg7 q k+Bg7 b k)=0;unfold Bg7;rw [if_neg (by omega),if_neg hkb];grind
        · rw [d q h];unfold Bg7;rw [if_neg (by omega)];grind
   have o:∀ k,k<n→k≠b→c k=0:=fun k hk hne=>by
    have:=hc k hk
    rw [val k hk,if_neg hne] at this
    grind
   intro i hi
   by_cases hib:i=b
   · subst hib
     have:=hc i hi
     rw [val i hi,if_pos rfl,o a ha hab] at this
     grind
   · exact o i hi hib
def swp (a b i:Nat):Nat:=if i=a then b else if i=b then a else i
theorem Cj9 {a b i n:Nat} (ha:a<n) (hb:b<n) (hi:i<n):swp a b i<n:=by
 unfold swp
 repeat' split
 all_goals omega
theorem Fe3 (a b i:Nat):swp a b (swp a b i)=i:=by
 unfold swp
 repeat' split
 all_goals omega
theorem Fd0 {n a b:Nat} (C:Nat→Nat→Rat) (ha:a<n) (hb:b<n):Ex7 n C fun i j=>C (swp a b i) (swp a b j):=by
 refine Eh4 (E:=fun i=>Bg7 (swp a b i)) (fun i j hi hj=>?_) (fun c hc i hi=>?_)
 · rw [As9 (Cj9 ha hb hi) (Cj9 ha hb hj)]
 · have d:=hc (swp a b i) (Cj9 ha hb hi)
   unfold lc at d
   rw [Am0 hi fun k hk hne=>?_] at d
   · have e:c i*Bg7 (swp a b i) (swp a b i)=0:=d
     unfold Bg7 at e
     rw [if_pos rfl] at e
     grind
   · have f:swp a b i≠swp a b k:=fun h=>hne (by rw [← Fe3 a b k,← h,Fe3])
     show c k*Bg7 (swp a b k) (swp a b i)=0
     unfold Bg7
     rw [if_neg f]
     grind
theorem Dm0 {C:Nat→Nat→Rat} (h:∀ x y,C x y=C y x):∀ k i j,sch C k i j=sch C k j i
 | 0,i,j=>h i j
 | k+1,i,j=>by
   show sch C k i j-sch C k i k*sch C k k j/sch C k k k=sch C k j i-sch C k j k*sch C k k i/sch C k k k
   rw [Dm0 h k i j,Dm0 h k i k,Dm0 h k k j];grind
theorem Ed1 {C:Nat→Nat→Rat} {a b K:Nat} (ha:K≤a) (hb:K≤b):∀ k,k≤K→∀ i j,sch (Bq2 a b C) k i j=Bq2 a b (sch C k) i j
 | 0,_,_,_=>rfl
 | k+1,hk,i,j=>by
   have ih:=Ed1 (C:=C) ha hb k (by omega)
   have hka:k≠a:=by omega
   show sch (Bq2 a b C) k i j-sch (Bq2 a b C) k i k*sch (Bq2 a b C) k k j/sch (Bq2 a b C) k k k=Bq2 a b (sch C (k+1)) i j
   rw [ih i j,ih i k,ih k j,ih k k]
   have s:∀ x y,sch C (k+1) x y=sch C k x y-sch C k x k*sch C k k y/sch C k k k:=fun _ _=>rfl
   unfold Bq2
   rw [s,s,s,s]
   by_cases c:i=a<;>by_cases d:j=a<;>simp only [c,d,hka,if_true,if_false,and_true,and_false,and_self]<;>grind
theorem Do7 {C:Nat→Nat→Rat} {a b K:Nat} (ha:K≤a) (hb:K≤b):∀ k,k≤K→∀ i j,sch (fun x y=>C (swp a b x) (swp a b y)) k i j=sch C k (swp a b i) (swp a b j)
 | 0,_,_,_=>rfl
 | k+1,hk,i,j=>by
   have ih:=Do7 (C:=C) ha hb k (by omega)
   have hkk:swp a b k=k:=by unfold swp;rw [if_neg (by omega),if_neg (by omega)]
   show sch (fun x y=>C (swp a b x) (swp a b y)) k i j-sch (fun x y=>C (swp a b x) (swp a b y)) k i k*sch (fun x y=>C (swp a b x) (swp a b y)) k k j/sch (fun x y=>C (swp a b x) (swp a b y)) k k k=_
   rw [ih i j,ih i k,ih k j,ih k k,hkk];rfl
theorem Cp9 {C C':Nat→Nat→Rat}:∀ {k:Nat},(∀ m,m<k→sch C' m m m=sch C m m m)→prd C' k=prd C k
 | 0,_=>rfl
 | k+1,h=>by
   show prd C' k*sch C' k k k=prd C k*sch C k k k
   rw [Cp9 (k:=k) fun m hm=>h m (by omega),h k (by omega)]
theorem Eq2 {C:Nat→Nat→Rat}:∀ {k:Nat},(∀ m,m<k→sch C m m m≠0)→prd C k≠0
 | 0,_=>by show (1:Rat)≠0;decide
 | k+1,h=>by
   show prd C k*sch C k k k≠0
   intro a
   rcases Rat.mul_eq_zero.1 a with a | a
   · exact Eq2 (k:=k) (fun m hm=>h m (by omega)) a
   · exact h k (by omega) a
theorem ldl:∀ (n:Nat) (C:Nat→Nat→Rat) (k:Nat),k≤n→(∀ x y,C x y=C y x)→(∀ m,m<k→sch C m m m≠0)→(∀ i j,k≤i→i<n→k≤j→j<n→sch C k i j=0)→∃ W,Diag n C W fun m=>if m<k then sch C m m m else 0
 | n,C,0,_,_,_,h=>by
   refine ⟨Bg7,⟨fun i j hi hj=>?_,fun c hc i hi=>?_⟩⟩
   · rw [As9 hi hj,show C i j=sch C 0 i j from rfl,h i j (by omega) hi (by omega) hj]
     split<;>rfl
   · have:=hc i hi
     unfold lc at this
     rw [Am0 hi fun k hk hne=>by unfold Bg7;rw [if_neg (by omega)];grind] at this
     unfold Bg7 at this
     rw [if_pos rfl] at this
     grind
 | 0,C,k+1,hk,_,_,_=>by omega
 | n+1,C,k+1,hk,hs,hp,h=>by
   have hc:C 0 0≠0:=hp 0 (by omega)
   obtain ⟨W,hW⟩:=ldl n (one C) k (by omega) (fun x y=>by unfold one;rw [hs (x+1) (y+1),hs (x+1) 0,hs 0 (y+1)];grind) (fun m hm=>by rw [Bg2];exact hp (m+1) (by omega))
    (fun i j v z h3 h4=>by rw [Bg2];exact h _ _ (by omega) (by omega) (by omega) (by omega))
   let al (i:Nat):Rat:=sm n fun q=>C 0 (q+1)*W i q
   let V:Nat→Nat→Rat:=fun i q=>match i,q with
    | 0,0=>1
    | 0,_+1=>0
    | i+1,0 => - al i/C 0 0
    | i+1,q+1=>W i q
   -- the form on columns that begin with a number
   have split2:∀ x y:Nat→Rat,bil (n+1) C x y=x 0*C 0 0*y 0+x 0*sm n (fun q=>C 0 (q+1)*y (q+1))+y 0*sm n (fun q=>C 0 (q+1)*x (q+1))+sm n (fun p=>sm n fun q=>x (p+1)*C (p+1) (q+1)*y (q+1)):=fun x y=>by
    have t:sm n (fun p=>sm (n+1) fun j=>x (p+1)*C (p+1) j*y j)=y 0*sm n (fun q=>C 0 (q+1)*x (q+1))+sm n (fun p=>sm n fun q=>x (p+1)*C (p+1) (q+1)*y (q+1)):=by
     rw [← Ab9,← Ai2]
     refine Aa2 fun p _=>?_
     rw [Al6,hs (p+1) 0];grind
    have s:sm (n+1) (fun j=>x 0*C 0 j*y j)=x 0*C 0 0*y 0+x 0*sm n (fun q=>C 0 (q+1)*y (q+1)):=by
     rw [Al6,← Ab9]
     congr 1
     exact Aa2 fun q _=>by grind
    unfold bil
    rw [Al6,s,t];grind
   have oneB:∀ i j,bil n (one C) (W i) (W j)=sm n (fun p=>sm n fun q=>W i p*C (p+1) (q+1)*W j q)-al i*al j/C 0 0:=fun i j=>by
    have e:sm n (fun p=>sm n fun q=>W i p*C (p+1) (q+1)*W j q)=bil n (one C) (W i) (W j)+sm n (fun p=>sm n fun q=>(C 0 (p+1)*W i p)*((C 0 (q+1)*W j q)/C 0 0)):=by
     unfold bil
     rw [← Ai2]
     refine Aa2 fun p _=>?_
     rw [← Ai2]
     refine Aa2 fun q _=>?_
     unfold one
     rw [hs (p+1) 0]
     grind
    have u:sm n (fun p=>sm n fun q=>(C 0 (p+1)*W i p)*((C 0 (q+1)*W j q)/C 0 0))=al i*al j/C 0 0:=by
     rw [Aa2 (g:=fun p=>(C 0 (p+1)*W i p)*(al j/C 0 0)) fun p _=>?_,An0]
     · show al i*(al j/C 0 0)=_;grind
     · rw [Ab9,Aa2 (g:=fun q=>(C 0 (q+1)*W j q)*(1/C 0 0)) fun q _=>by grind,An0]
       show _*(al j*(1/C 0 0))=_
       grind
    rw [e,u];grind
   refine ⟨V,⟨fun i j hi hj=>?_,fun c hcc i hi=>?_⟩⟩
   · rw [split2]
     have b:∀ q,V 0 (q+1)=0:=fun _=>rfl
     have f:V 0 0=1:=rfl
     have vs:∀ i q,V (i+1) (q+1)=W i q:=fun _ _=>rfl
     have d:∀ i,V (i+1) 0 = - al i/C 0 0:=fun _=>rfl
     have l:sm n (fun q=>C 0 (q+1)*V 0 (q+1))=0:=Am4 fun q _=>by rw [b q];grind
     have sa:∀ i,sm n (fun q=>C 0 (q+1)*V (i+1) (q+1))=al i:=fun _=>rfl
     match i,j with
     | 0,0=>
       rw [l,Am4 fun p _=>Am4 fun q _=>by rw [b p];grind,f,if_pos rfl,if_pos (by omega)]
       show _=C 0 0
       grind
     | 0,j+1=>
       rw [l,sa,Am4 fun p _=>Am4 fun q _=>by rw [b p];grind,f,d,if_neg (by omega)]
       grind
     | i+1,0=>
       rw [l,sa,Am4 fun p _=>Am4 fun q _=>by rw [b q];grind,f,d,if_neg (by omega)]
       grind
     | i+1,j+1=>
       rw [sa,sa,d,d]
       have hd:=hW.is i j (by omega) (by omega)
       rw [oneB] at hd
       have e:(if i+1=j+1 then (if i+1<k+1 then sch C (i+1) (i+1) (i+1) else 0) else 0)=if i=j then (if i<k then sch (one C) i i i else 0) else 0:=by
        rw [Bg2]
        by_cases o:i=j
        · by_cases r:i<k
          · rw [if_pos (by omega),if_pos (by omega),if_pos o,if_pos r]
          · rw [if_pos (by omega),if_neg (by omega),if_pos o,if_neg r]
        · rw [if_neg (by omega),if_neg o]
       rw [e,← hd]
       show _+sm n (fun p=>sm n fun q=>W i p*C (p+1) (q+1)*W j q)=_
       grind
   · have tail:∀ i,i<n→c (i+1)=0:=hW.ind (fun i=>c (i+1)) fun q hq=>by
      have:=hcc (q+1) (by omega)
      unfold lc at this
      rw [Al6] at this
      have e:c 0*V 0 (q+1)=0:=by show c 0*0=0;grind
      rw [e] at this
      show sm n (fun i=>c (i+1)*V (i+1) (q+1))=0
      grind
     match i with
     | i+1=>exact tail i (by omega)
     | 0=>
       have:=hcc 0 (by omega)
       unfold lc at this
       rw [Al6,Am4 fun i hi=>by rw [tail i hi];grind] at this
       have e:c 0*V 0 0=c 0:=by show c 0*1=c 0;grind
       rw [e] at this
       grind
end Go.Ine
/-
  The state of an elimination without fractions, step by step; the signs of a matrix are its own. No condition.
-/
namespace Go.Ine
theorem Bq9 {n:Nat} {d d':Nat→Rat} (h:∀ k,k<n→d k=d' k):Dc0 n d=Dc0 n d':=by
 unfold Dc0
 congr 1
 refine AC fun k hk=>?_
 rw [h k (List.mem_range.1 hk)]
theorem Cf8 {n:Nat} {d d':Nat→Rat} (h:∀ k,k<n→d k=d' k):Db3 n d=Db3 n d':=by
 unfold Db3
 congr 1
 refine AC fun k hk=>?_
 rw [h k (List.mem_range.1 hk)]
theorem Cw9 (n:Nat) (d:Nat→Rat):Dc0 (n+1) d=Dc0 n d+if 0<d n then 1 else 0:=by
 unfold Dc0
 rw [AQ,AO,AJ]
 congr 1
 by_cases h:0<d n
 · rw [if_pos h,AK (by simpa using h)];rfl
 · rw [if_neg h,AL (by simpa using h)];rfl
theorem Co5 (n:Nat) (d:Nat→Rat):Db3 (n+1) d=Db3 n d+if d n<0 then 1 else 0:=by
 unfold Db3
 rw [AQ,AO,AJ]
 congr 1
 by_cases h:d n<0
 · rw [if_pos h,AK (by simpa using h)];rfl
 · rw [if_neg h,AL (by simpa using h)];rfl
theorem En3 {n k:Nat} {d:Nat→Rat} (h:∀ m,k≤m→m<n→d m=0) (hk:k≤n):Dc0 n d=Dc0 k d∧Db3 n d=Db3 k d:=by
 induction n with
 | zero=>
   obtain rfl:k=0:=by omega
   exact ⟨rfl,rfl⟩
 | succ n ih=>
   by_cases c:k=n+1
   · subst c;exact ⟨rfl,rfl⟩
   · obtain ⟨a,b⟩:=ih (fun m e f=>h m e (by omega)) (by omega)
     have z:=h n (by omega) (by omega)
     rw [Cw9,Co5,z,a,b,if_neg (by decide)]
     exact ⟨rfl,rfl⟩
def Sig (n:Nat) (A:Nat→Nat→Rat) (below above:Nat):Prop:=∃ W d,Diag n A W d∧Db3 n d=below∧Dc0 n d=above
theorem Diag.neg {n:Nat} {A W:Nat→Nat→Rat} {d:Nat→Rat} (h:Diag n A W d):Diag n (fun i j => - A i j) W (fun i => - d i):=by
 refine ⟨fun i j hi hj=>?_,h.ind⟩
 have e:bil n (fun i j => - A i j) (W i) (W j) = - bil n A (W i) (W j):=by
  have : - bil n A (W i) (W j) = -1*bil n A (W i) (W j):=by grind
  rw [this]
  unfold bil
  rw [← Ab9]
  refine Aa2 fun p _=>?_
  rw [← Ab9]
  exact Aa2 fun q _=>by grind
 rw [e,h.is i j hi hj]
 split<;>grind
theorem Fh9 (n:Nat) (d:Nat→Rat):Db3 n (fun i => - d i)=Dc0 n d∧Dc0 n (fun i => - d i)=Db3 n d:=by
 unfold Db3 Dc0
 constructor<;>congr 1<;>refine AC fun k _=>?_<;>rw [decide_eq_decide]<;>grind
theorem Sig.cong {n:Nat} {A C:Nat→Nat→Rat} {b a:Nat} (hc:Ex7 n A C) (h:Sig n C b a):Sig n A b a:=by
 obtain ⟨W,d,hd,c,e⟩:=h
 obtain ⟨W',hd'⟩:=hc W d hd
 exact ⟨W',d,hd',c,e⟩
theorem Sig.neg {n:Nat} {A:Nat→Nat→Rat} {b a:Nat} (h:Sig n A b a):Sig n (fun i j => - A i j) a b:=by
 obtain ⟨W,d,hd,rfl,rfl⟩:=h
 exact ⟨W,_,hd.neg,(Fh9 n d).1,(Fh9 n d).2⟩
theorem Diag.ext {n:Nat} {A B W:Nat→Nat→Rat} {d:Nat→Rat} (h:Diag n A W d) (e:∀ i j,i<n→j<n→B i j=A i j):Diag n B W d:=
 ⟨fun i j hi hj=>by
  rw [← h.is i j hi hj]
  exact Aa2 fun p hp=>Aa2 fun q hq=>by rw [e p q hp hq],h.ind⟩
theorem Sig.ext {n:Nat} {A B:Nat→Nat→Rat} {b a:Nat} (h:Sig n A b a) (e:∀ i j,i<n→j<n→B i j=A i j):Sig n B b a:=by
 obtain ⟨W,d,hd,c,f⟩:=h
 exact ⟨W,d,hd.ext e,c,f⟩
theorem Sig.scale {n:Nat} {A:Nat→Nat→Rat} {b a:Nat} {c:Rat} (hc:0<c) (h:Sig n A b a):Sig n (fun i j=>c*A i j) b a:=by
 obtain ⟨W,d,hd,rfl,rfl⟩:=h
 refine ⟨W,fun i=>c*d i,⟨fun i j hi hj=>?_,hd.ind⟩,?_,?_⟩
 · have e:bil n (fun i j=>c*A i j) (W i) (W j)=c*bil n A (W i) (W j):=by
    unfold bil
    rw [← Ab9]
    refine Aa2 fun p _=>?_
    rw [← Ab9]
    exact Aa2 fun q _=>by grind
   rw [e,hd.is i j hi hj]
   split<;>grind
 · unfold Db3;congr 1;refine AC fun k _=>?_
   rw [decide_eq_decide]
   constructor
   · intro h;exact Classical.byContradiction fun f=>by have:=AD (a:=c) (b:=d k) (by grind) (by grind);grind
   · intro h;have:=AH (a:=c) (b := - d k) hc (by grind);grind
 · unfold Dc0;congr 1;refine AC fun k _=>?_
   rw [decide_eq_decide]
   constructor
   · intro h;exact Classical.byContradiction fun f=>by have:=AD (a:=c) (b := - d k) (by grind) (by grind);grind
   · intro h;exact AH hc h
theorem Sig.diag (n:Nat) (d:Nat→Rat):Sig n (fun i j=>if i=j then d i else 0) (Db3 n d) (Dc0 n d):=by
 refine ⟨Bg7,d,⟨fun i j hi hj=>As9 hi hj,fun c hc i hi=>?_⟩,rfl,rfl⟩
 have:=hc i hi
 unfold lc at this
 rw [Am0 hi fun k hk hne=>by unfold Bg7;rw [if_neg (by omega)];grind] at this
 unfold Bg7 at this
 rw [if_pos rfl] at this
 grind
theorem Sig.mono {n:Nat} {A B:Nat→Nat→Rat} {b a b' a':Nat} (h:Sig n A b a) (h':Sig n B b' a') (hle:∀ v,bil n B v v≤bil n A v v):b≤b':=by
 obtain ⟨W,d,hd,rfl,rfl⟩:=h
 obtain ⟨W',d',hd',rfl,rfl⟩:=h'
 exact Gw8 hd hd' hle
structure Core (n:Nat) (A:Nat→Nat→Rat) (k:Nat) (C:Nat→Nat→Rat):Prop where
 int:∀ x y,∃ z:Int,C x y=z
 sym:∀ x y,C x y=C y x
 cong:Ex7 n A C
 piv:∀ m,m<k→sch C m m m≠0
def Inv (n:Nat) (A:Nat→Nat→Rat) (k:Nat) (R:Nat→Nat→Int) (last:Int) (below above:Nat):Prop:=
 ∃ C,Core n A k C∧(∀ i j,k≤i→i<n→k≤j→j<n→(R i j:Rat)=prd C k*sch C k i j)∧(last:Rat)=prd C k∧Db3 k (fun m=>sch C m m m)=below∧Dc0 k (fun m=>sch C m m m)=above
theorem Inv.init {n:Nat} {R:Nat→Nat→Int} (hs:∀ x y,R x y=R y x):Inv n (fun i j=>(R i j:Rat)) 0 R 1 0 0:=
 ⟨fun i j=>(R i j:Rat),⟨fun x y=>⟨R x y,rfl⟩,fun x y=>by rw [hs x y],Ex7.refl _ _,fun m h=>by omega⟩,fun i j _ _ _ _=>by show (R i j:Rat)=1*(R i j:Rat);grind,rfl,rfl,rfl⟩
theorem Inv.sym {n k:Nat} {A:Nat→Nat→Rat} {R:Nat→Nat→Int} {last:Int} {b a:Nat} (h:Inv n A k R last b a) {i j:Nat} (c:k≤i) (d:i<n) (f:k≤j) (g:j<n):R i j=R j i:=by
 obtain ⟨C,hC,hR,_⟩:=h
 have:=hR i j c d f g
 have e:=hR j i f g c d
 rw [Dm0 hC.sym] at e
 rw [← e] at this
 exact Rat.intCast_inj.1 this
theorem Inv.add {n k x y:Nat} {A:Nat→Nat→Rat} {R R':Nat→Nat→Int} {last:Int} {b a:Nat} (h:Inv n A k R last b a) (hx:k≤x) (r:x<n) (hy:k≤y) (c:y<n) (hxy:x≠y)
 (hR':∀ i j,k≤i→i<n→k≤j→j<n→R' i j=R i j+(if i=x then R y j else 0)+(if j=x then R i y else 0)+(if i=x∧j=x then R y y else 0)):Inv n A k R' last b a:=by
 obtain ⟨C,hC,hR,hl,hb,ha⟩:=h
 have sq:∀ m,m<k→sch (Bq2 x y C) m m m=sch C m m m:=fun m hm=>by
  rw [Ed1 hx hy m (by omega)]
  unfold Bq2
  rw [if_neg (by omega),if_neg (by omega),if_neg (by omega)];grind
 have pk:prd (Bq2 x y C) k=prd C k:=Cp9 sq
 refine ⟨Bq2 x y C,⟨fun p q=>?_,fun p q=>?_,hC.cong.trans (Fp1 C r c hxy),fun m hm=>by rw [sq m hm];exact hC.piv m hm⟩,fun i j f g l o=>?_,by rw [pk];exact hl,?_,?_⟩
 · obtain ⟨s,t⟩:=hC.int p q
   obtain ⟨u,v⟩:=hC.int y q
   obtain ⟨z,e3⟩:=hC.int p y
   obtain ⟨z4,e4⟩:=hC.int y y
   refine ⟨s+(if p=x then u else 0)+(if q=x then z else 0)+(if p=x∧q=x then z4 else 0),?_⟩
   unfold Bq2
   rw [t,v,e3,e4,AB,AB,AB]
   congr 1
   · congr 1
     · congr 1
       split<;>rfl
     · split<;>rfl
   · split<;>rfl
 · unfold Bq2
   rw [hC.sym p q,hC.sym y q,hC.sym p y]
   by_cases d:p=x<;>by_cases e:q=x<;>simp only [d,e,if_true,if_false,and_true,and_false,and_self]<;>grind
 · rw [hR' i j f g l o,Ed1 hx hy k (AF _),pk]
   unfold Bq2
   rw [AB,AB,AB,hR i j f g l o]
   have r1:=hR y j hy c l o
   have r2:=hR i y f g hy c
   have r3:=hR y y hy c hy c
   by_cases d:i=x<;>by_cases e:j=x<;>simp only [d,e,if_true,if_false,and_true,and_false,and_self,AE]<;>(try simp only [d] at r2)<;>(try simp only [e] at r1)<;>grind
 · rw [Cf8 sq];exact hb
 · rw [Bq9 sq];exact ha
theorem Inv.swap {n k x y:Nat} {A:Nat→Nat→Rat} {R R':Nat→Nat→Int} {last:Int} {b a:Nat} (h:Inv n A k R last b a) (hx:k≤x) (c:x<n) (hy:k≤y) (d:y<n)
 (hR':∀ i j,k≤i→i<n→k≤j→j<n→R' i j=R (swp x y i) (swp x y j)):Inv n A k R' last b a:=by
 obtain ⟨C,hC,hR,hl,hb,ha⟩:=h
 have sq:∀ m,m<k→sch (fun p q=>C (swp x y p) (swp x y q)) m m m=sch C m m m:=fun m hm=>by
  rw [Do7 hx hy m (by omega)]
  have:swp x y m=m:=by unfold swp;rw [if_neg (by omega),if_neg (by omega)]
  rw [this]
 have pk:prd (fun p q=>C (swp x y p) (swp x y q)) k=prd C k:=Cp9 sq
 have sk:∀ i,k≤i→k≤swp x y i:=fun i hi=>by
  unfold swp
  repeat' split
  all_goals omega
 refine ⟨fun p q=>C (swp x y p) (swp x y q),⟨fun p q=>hC.int _ _,fun p q=>hC.sym _ _,hC.cong.trans (Fd0 C c d),fun m hm=>by rw [sq m hm];exact hC.piv m hm⟩,fun i j e f g l=>?_,by rw [pk];exact hl,?_,?_⟩
 · rw [hR' i j e f g l,Do7 hx hy k (AF _),pk]
   exact hR _ _ (sk i e) (Cj9 c d f) (sk j g) (Cj9 c d l)
 · rw [Cf8 sq];exact hb
 · rw [Bq9 sq];exact ha
theorem Inv.last_ne {n k:Nat} {A:Nat→Nat→Rat} {R:Nat→Nat→Int} {last:Int} {b a:Nat} (h:Inv n A k R last b a):last≠0:=by
 obtain ⟨C,hC,_,hl,_⟩:=h
 intro c
 rw [c] at hl
 exact Eq2 hC.piv hl.symm
theorem Inv.step {n k:Nat} {A:Nat→Nat→Rat} {R:Nat→Nat→Int} {last:Int} {b a:Nat} (h:Inv n A k R last b a) (hk:k<n) (hp:R k k≠0) :
 (∀ i j,k<i→i<n→k<j→j<n→∃ z,R k k*R i j-R i k*R k j=last*z) ∧
 ∀ R':Nat→Nat→Int,(∀ i j,k<i→i<n→k<j→j<n→last*R' i j=R k k*R i j-R i k*R k j) →
   Inv n A (k+1) R' (R k k) (b+if (0<R k k↔0<last) then 0 else 1) (a+if (0<R k k↔0<last) then 1 else 0):=by
 have v:=h.last_ne
 obtain ⟨C,hC,hR,hl,hb,ha⟩:=h
 have hkk:=hR k k (AF _) hk (AF _) hk
 have hne:=Eq2 hC.piv
 have hs:sch C k k k≠0:=fun p=>hp (by
  rw [p] at hkk
  have:(R k k:Rat)=((0:Int):Rat):=by rw [hkk,AE];grind
  exact Rat.intCast_inj.1 this)
 have piv:∀ m,m<k+1→sch C m m m≠0:=fun m hm=>by
  by_cases c:m=k
  · subst c;exact hs
  · exact hC.piv m (by omega)
 have key:∀ i j,k<i→i<n→k<j→j<n→(R k k:Rat)*R i j-R i k*R k j=last*(prd C (k+1)*sch C (k+1) i j):=fun i j l d g f=>by
  rw [hkk,hR i j (by omega) d (by omega) f,hR i k (by omega) d (AF _) hk,hR k j (AF _) hk (by omega) f,hl]
  show _=prd C k*((prd C k*sch C k k k)*(sch C k i j-sch C k i k*sch C k k j/sch C k k k))
  grind
 have lne:(last:Rat)≠0:=by rw [hl];exact hne
 refine ⟨fun i j l d g f=>?_,fun R' hR'=>⟨C,⟨hC.int,hC.sym,hC.cong,piv⟩,fun i j l d g f=>?_,hkk,?_,?_⟩⟩
 · obtain ⟨z,hz⟩:=Gc6 hC.int (k:=k+1) (i:=i) (j:=j) (by omega) (by omega) piv
   refine ⟨z,?_⟩
   have e:=key i j l d g f
   rw [hz,← AA,← AA,← AA,← Rat.intCast_sub] at e
   exact Rat.intCast_inj.1 e
 · have e:=key i j (by omega) d (by omega) f
   have q:=hR' i j (by omega) d (by omega) f
   have r:((last*R' i j:Int):Rat)=((R k k*R i j-R i k*R k j:Int):Rat):=by rw [q]
   rw [AA,Rat.intCast_sub,AA,AA,e] at r
   grind
 all_goals
  have sgn:(0<sch C k k k)↔(0<R k k↔0<last):=by
   have s:(0<(R k k:Rat))↔0<R k k:=by rw [← AE];exact AM
   have t:(0<(last:Rat))↔0<last:=by rw [← AE];exact AM
   rw [← s,← t,hkk,hl]
   constructor
   · intro h
     constructor
     · intro d
       exact Classical.byContradiction fun g=>by have:=AD (a := - prd C k) (b:=sch C k k k) (by grind) (by grind);grind
     · intro d;exact AH d h
   · intro h
     refine Classical.byContradiction fun g=>?_
     have g:sch C k k k<0:=by grind
     rcases Rat.le_total (a:=0) (b:=prd C k) with f | f
     · have o:0<prd C k:=by grind
       have u:=h.2 o
       have:=AH (a:=prd C k) (b := - sch C k k k) o (by grind)
       grind
     · have o:prd C k<0:=by grind
       have u:=AH (a := - prd C k) (b := - sch C k k k) (by grind) (by grind)
       have x:=h.1 (by grind)
       grind
 · rw [Co5,hb]
   by_cases c:(0<R k k↔0<last)
   · rw [if_pos c,if_neg (by have:=sgn.2 c;grind)]
   · rw [if_neg c,if_pos (by have : ¬ 0<sch C k k k:=fun h=>c (sgn.1 h);grind)]
 · rw [Cw9,ha]
   by_cases c:(0<R k k↔0<last)
   · rw [if_pos c,if_pos (sgn.2 c)]
   · rw [if_neg c,if_neg (fun h=>c (sgn.1 h))]
theorem Inv.done {n k:Nat} {A:Nat→Nat→Rat} {R:Nat→Nat→Int} {last:Int} {b a:Nat} (h:Inv n A k R last b a) (hk:k≤n) (hz:∀ i j,k≤i→i<n→k≤j→j<n→R i j=0):Sig n A b a:=by
 obtain ⟨C,hC,hR,hl,hb,ha⟩:=h
 have z:∀ i j,k≤i→i<n→k≤j→j<n→sch C k i j=0:=fun i j c d g l=>by
  have e:=hR i j c d g l
  rw [hz i j c d g l,AE] at e
  rcases Rat.mul_eq_zero.1 e.symm with f | f
  · exact absurd f (Eq2 hC.piv)
  · exact f
 obtain ⟨W,hW⟩:=ldl n C k hk hC.sym hC.piv z
 refine Sig.cong hC.cong ⟨W,_,hW,?_,?_⟩
 · rw [(En3 (fun m c d=>by rw [if_neg (by omega)]) hk).2,Cf8 (fun m hm=>by rw [if_pos hm])];exact hb
 · rw [(En3 (fun m c d=>by rw [if_neg (by omega)]) hk).1,Bq9 (fun m hm=>by rw [if_pos hm])];exact ha
end Go.Ine
/-
  The signs of L D L turned over; of rows and columns in another order. No condition.
-/
namespace Go.Ine
def Low (l:Nat→Nat→Rat):Prop:=(∀ i,l i i=1)∧∀ i k,i<k→l i k=0
theorem Low.ind {n:Nat} {l:Nat→Nat→Rat} (hl:Low l) (c:Nat→Rat) (h:∀ k,k<n→lc n c l k=0):∀ i,i<n→c i=0:=by
 have key:∀ m i,i<n→n≤i+m+1→c i=0:=by
  intro m
  induction m with
  | zero=>
    intro i hi hm
    have e:=h i hi
    unfold lc at e
    rw [Am0 hi fun k hk hne=>by rw [hl.2 k i (by omega)];grind,hl.1] at e
    grind
  | succ m ih=>
    intro i hi hm
    have e:=h i hi
    unfold lc at e
    rw [Am0 hi fun k hk hne=>by
     by_cases a:k<i
     · rw [hl.2 k i a];grind
     · rw [ih k hk (by omega)];grind,hl.1] at e
    grind
 intro i hi
 exact key n i hi (by omega)
end Go.Ine
