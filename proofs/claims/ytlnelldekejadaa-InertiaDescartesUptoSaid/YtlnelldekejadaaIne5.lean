/-
  Sums of rationals, systems of homogeneous equations, the law of inertia. No condition.
-/
namespace Go.Ine
def sm:Nat→(Nat→Rat)→Rat
  | 0,_=>0
  | n+1,f=>sm n f+f n
theorem sm_congr {f g:Nat→Rat}:∀ {n:Nat},(∀ k,k<n→f k=g k)→sm n f=sm n g
  | 0,_=>rfl
  | n+1,h=>by
    unfold sm
    rw [sm_congr (n:=n) fun k hk=>h k (by omega),h n (by omega)]
theorem sm_zero {f:Nat→Rat} {n:Nat} (h:∀ k,k<n→f k=0):sm n f=0:=by
  rw [sm_congr (g:=fun _=>0) h]
  clear h
  induction n with
  | zero=>rfl
  | succ n ih=>unfold sm;rw [ih];grind
theorem sm_add (f g:Nat→Rat):∀ n,sm n (fun k=>f k+g k)=sm n f+sm n g
  | 0=>by unfold sm;grind
  | n+1=>by unfold sm;rw [sm_add f g n];grind
theorem sm_mul (c:Rat) (f:Nat→Rat):∀ n,sm n (fun k=>c*f k)=c*sm n f
  | 0=>by unfold sm;grind
  | n+1=>by unfold sm;rw [sm_mul c f n];grind
theorem sm_mulr (c:Rat) (f:Nat→Rat) (n:Nat):sm n (fun k=>f k*c)=sm n f*c:=by
  rw [sm_congr (g:=fun k=>c*f k) (fun k _=>by grind),sm_mul];grind
theorem sm_swap (f:Nat→Nat→Rat) (n:Nat):∀ m,sm n (fun i=>sm m (fun j=>f i j))=sm m (fun j=>sm n (fun i=>f i j))
  | 0=>by
    show sm n (fun _=>0)=0
    exact sm_zero fun _ _=>rfl
  | m+1=>by
    show sm n (fun i=>sm m (fun j=>f i j)+f i m)=sm m (fun j=>sm n (fun i=>f i j))+sm n (fun i=>f i m)
    rw [sm_add,sm_swap f n m]
theorem sm_head (f:Nat→Rat):∀ n,sm (n+1) f=f 0+sm n (fun k=>f (k+1))
  | 0=>by show 0+f 0=f 0+0;grind
  | n+1=>by
    show sm (n+1) f+f (n+1)=f 0+(sm n (fun k=>f (k+1))+f (n+1))
    rw [sm_head f n];grind
theorem sm_one {f:Nat→Rat} {n i:Nat} (hi:i<n) (h:∀ k,k<n→k≠i→f k=0):sm n f=f i:=by
  induction n with
  | zero=>omega
  | succ n ih=>
    unfold sm
    by_cases c:i=n
    · subst c
      rw [sm_zero fun k hk=>h k (by omega) (by omega)];grind
    · rw [ih (by omega) fun k hk hne=>h k (by omega) hne,h n (by omega) (by omega)];grind
theorem sm_nonneg {f:Nat→Rat}:∀ {n:Nat},(∀ k,k<n→0≤f k)→0≤sm n f
  | 0,_=>by unfold sm;grind
  | n+1,h=>by
    have:=sm_nonneg (n:=n) fun k hk=>h k (by omega)
    have:=h n (by omega)
    unfold sm;grind
theorem sm_pos {f:Nat→Rat} {n i:Nat} (h:∀ k,k<n→0≤f k) (hi:i<n) (hp:0<f i):0<sm n f:=by
  induction n with
  | zero=>omega
  | succ n ih=>
    unfold sm
    by_cases c:i=n
    · subst c
      have:=sm_nonneg (n:=i) fun k hk=>h k (by omega)
      grind
    · have:=ih (fun k hk=>h k (by omega)) (by omega)
      have:=h n (by omega)
      grind
def skip (p k:Nat):Nat:=if k<p then k else k+1
theorem sm_skip (g:Nat→Rat) {p:Nat}:∀ {n:Nat},p≤n→sm (n+1) g=sm n (fun k=>g (skip p k))+g p
  | 0,h=>by
    obtain rfl:p=0:=by omega
    rfl
  | n+1,h=>by
    by_cases c:p=n+1
    · subst c
      show sm (n+1) g+g (n+1)=_
      rw [sm_congr (f:=fun k=>g (skip (n+1) k)) (g:=g) fun k hk=>by unfold skip;rw [if_pos hk]]
    · show sm (n+1) g+g (n+1)=(sm n (fun k=>g (skip p k))+g (skip p n))+g p
      rw [sm_skip g (p:=p) (n:=n) (by omega)]
      have e:skip p n=n+1:=by unfold skip;rw [if_neg (by omega)]
      rw [e];grind
theorem skip_ne' (p k:Nat):skip p k≠p:=by unfold skip;split<;>omega
theorem skip_back (p k:Nat):(if skip p k<p then skip p k else skip p k-1)=k:=by
  unfold skip
  by_cases h:k<p
  · rw [if_pos h,if_pos h]
  · rw [if_neg h,if_neg (by omega)];omega
theorem homogM:∀ (m:Nat) (L:List (Nat→Rat)) (c:Nat),L.length=m→L.length<c→∃ x:Nat→Rat,(∃ k,k<c∧x k≠0)∧∀ f∈L,sm c (fun k=>f k*x k)=0
  | _,[],c,_,h=>⟨fun _=>1,⟨0,by simpa using h,by decide⟩,fun f hf=>by cases hf⟩
  | 0,f::L,c,hm,h=>by simp at hm
  | m+1,f::L,c,hm,h=>by
    have hm':L.length=m:=by simpa using hm
    obtain ⟨c,rfl⟩:∃ d,c=d+1:=⟨c-1,by simp at h;omega⟩
    by_cases hz:∀ k,k<c+1→f k=0
    · obtain ⟨x,hx,hL⟩:=homogM m L (c+1) hm' (by simp at h;omega)
      refine ⟨x,hx,fun g hg=>?_⟩
      rcases List.mem_cons.1 hg with rfl | hg
      · exact sm_zero fun k hk=>by rw [hz k hk];grind
      · exact hL g hg
    · obtain ⟨p,hp,hfp⟩:∃ p,p<c+1∧f p≠0:=by
        refine Classical.byContradiction fun hn=>hz fun k hk=>Classical.byContradiction fun hk2=>hn ⟨k,hk,hk2⟩
      obtain ⟨y,⟨k0,hk0,hy0⟩,hL⟩:=homogM m (L.map fun g k=>f p*g (skip p k)-g p*f (skip p k)) c (by simpa using hm') (by simp at h ⊢;omega)
      refine ⟨fun k=>if k=p then-sm c (fun q=>f (skip p q)*y q) else f p*y (if k<p then k else k-1),⟨skip p k0,?_,?_⟩,fun g hg=>?_⟩
      · unfold skip;split<;>omega
      · show (if skip p k0=p then _ else f p*y (if skip p k0<p then skip p k0 else skip p k0-1))≠0
        rw [if_neg (skip_ne' p k0),skip_back]
        intro h0
        rcases Rat.mul_eq_zero.1 h0 with h0 | h0
        · exact hfp h0
        · exact hy0 h0
      · have val:∀ q,(fun k=>if k=p then-sm c (fun q=>f (skip p q)*y q) else f p*y (if k<p then k else k-1)) (skip p q)=f p*y q:=fun q=>by
          show (if skip p q=p then _ else f p*y (if skip p q<p then skip p q else skip p q-1))=_
          rw [if_neg (skip_ne' p q),skip_back]
        rw [sm_skip (p:=p) _ (by omega)]
        rw [sm_congr (g:=fun q=>f p*(g (skip p q)*y q)) fun q _=>by
          show g (skip p q)*(fun k=>if k=p then-sm c (fun q=>f (skip p q)*y q) else f p*y (if k<p then k else k-1)) (skip p q)=_
          rw [val];grind]
        rw [sm_mul]
        show f p*sm c (fun q=>g (skip p q)*y q)+g p*(if p=p then-sm c (fun q=>f (skip p q)*y q) else _)=0
        rw [if_pos rfl]
        rcases List.mem_cons.1 hg with rfl | hg
        · grind
        · have:=hL _ (List.mem_map.2 ⟨g,hg,rfl⟩)
          rw [sm_congr (g:=fun q=>f p*(g (skip p q)*y q) + - g p*(f (skip p q)*y q)) fun q _=>by grind,sm_add,sm_mul,sm_mul] at this
          grind
theorem homog (L:List (Nat→Rat)) (c:Nat) (h:L.length<c):∃ x:Nat→Rat,(∃ k,k<c∧x k≠0)∧∀ f∈L,sm c (fun k=>f k*x k)=0:=homogM L.length L c rfl h
def bil (n:Nat) (A:Nat→Nat→Rat) (x y:Nat→Rat):Rat:=sm n fun i=>sm n fun j=>x i*A i j*y j
def lc (n:Nat) (c:Nat→Rat) (W:Nat→Nat→Rat):Nat→Rat:=fun k=>sm n fun i=>c i*W i k
theorem bil_l (n:Nat) (A:Nat→Nat→Rat) (m:Nat) (c:Nat→Rat) (W:Nat→Nat→Rat) (y:Nat→Rat):bil n A (lc m c W) y=sm m fun i=>c i*bil n A (W i) y:=by
  unfold bil lc
  rw [sm_congr (g:=fun i=>sm m fun k=>c k*sm n fun j=>W k i*A i j*y j) fun i _=>?_,sm_swap]
  · exact sm_congr fun k _=>by rw [sm_mul]
  · rw [sm_congr (g:=fun j=>sm m fun k=>c k*(W k i*A i j*y j)) fun j _=>?_,sm_swap]
    · exact sm_congr fun k _=>by rw [sm_mul]
    · rw [show sm m (fun k=>c k*W k i)*A i j*y j=sm m (fun k=>c k*W k i)*(A i j*y j) by grind,← sm_mulr]
      exact sm_congr fun k _=>by grind
theorem bil_r (n:Nat) (A:Nat→Nat→Rat) (m:Nat) (c:Nat→Rat) (W:Nat→Nat→Rat) (x:Nat→Rat):bil n A x (lc m c W)=sm m fun i=>c i*bil n A x (W i):=by
  unfold bil lc
  rw [sm_congr (g:=fun i=>sm m fun k=>c k*sm n fun j=>x i*A i j*W k j) fun i _=>?_,sm_swap]
  · exact sm_congr fun k _=>by rw [sm_mul]
  · rw [sm_congr (g:=fun j=>sm m fun k=>c k*(x i*A i j*W k j)) fun j _=>?_,sm_swap]
    · exact sm_congr fun k _=>by rw [sm_mul]
    · rw [← sm_mul]
      exact sm_congr fun k _=>by grind
structure Diag (n:Nat) (A:Nat→Nat→Rat) (W:Nat→Nat→Rat) (d:Nat→Rat):Prop where
  is:∀ i j,i<n→j<n→bil n A (W i) (W j)=if i=j then d i else 0
  ind:∀ c:Nat→Rat,(∀ k,k<n→lc n c W k=0)→∀ i,i<n→c i=0
theorem Diag.val {n:Nat} {A W:Nat→Nat→Rat} {d:Nat→Rat} (h:Diag n A W d) (c:Nat→Rat):bil n A (lc n c W) (lc n c W)=sm n fun i=>d i*(c i*c i):=by
  rw [bil_l]
  refine sm_congr fun i hi=>?_
  rw [bil_r,sm_one hi fun k hk hne=>?_,h.is i i hi hi,if_pos rfl]
  · grind
  · rw [h.is i k hi hk,if_neg (by omega)];grind
def cntP (n:Nat) (d:Nat→Rat):Nat:=((List.range n).filter fun i=>decide (0<d i)).length
def cntN (n:Nat) (d:Nat→Rat):Nat:=((List.range n).filter fun i=>decide (d i<0)).length
theorem bil_ext {n:Nat} {A:Nat→Nat→Rat} {x y x' y':Nat→Rat} (hx:∀ k,k<n→x k=x' k) (hy:∀ k,k<n→y k=y' k):bil n A x y=bil n A x' y':=
  sm_congr fun i hi=>sm_congr fun j hj=>by rw [hx i hi,hy j hj]
theorem lin1 {a b:Rat} (h:a + -1*b=0):a=b:=by grind
theorem lin2 (a b:Rat) : - a*b = -1*(b*a):=by grind
theorem sq_nonneg (t:Rat):0≤t*t:=by
  rcases Rat.le_total (a:=0) (b:=t) with h | h
  · exact Rat.mul_nonneg h h
  · have:t*t=(-t)*(-t):=by grind
    rw [this]
    exact Rat.mul_nonneg (by grind) (by grind)
theorem sq_pos {t:Rat} (h:t≠0):0<t*t:=by
  have h1:=sq_nonneg t
  have h2:t*t≠0:=fun h0=>by rcases Rat.mul_eq_zero.1 h0 with h0 | h0<;>exact h h0
  grind
theorem neg_pos' {a:Rat} (h:a<0):0 < - a:=by grind
theorem no_both {a b:Rat} (h1:0 < -1*a) (h2:0≤b) (h3:b≤a):False:=by grind
theorem zero_mul' (a:Rat) (b:Rat) (h:b=0):0≤a*(b*b):=by rw [h];grind
theorem cross {n:Nat} {A B W W':Nat→Nat→Rat} {d d':Nat→Rat} (h:Diag n A W d) (h':Diag n B W' d') (hle:∀ v,bil n B v v≤bil n A v v):cntN n d≤cntN n d':=by
  refine Nat.le_of_not_lt fun hlt=>?_
  -- unknowns: c for the first n places, e for the others
  let unit (p:Nat):Nat→Rat:=fun k=>if k=p then 1 else 0
  let eqs:List (Nat→Rat):=((List.range n).map fun k q=>if q<n then W q k else-W' (q-n) k) ++
    (((List.range n).filter fun i => ! decide (d i<0)).map fun i=>unit i)++(((List.range n).filter fun i=>decide (d' i<0)).map fun i=>unit (n+i))
  have hl:eqs.length<n+n:=by
    have e:=List.length_eq_countP_add_countP (fun i=>decide (d i<0)) (l:=List.range n)
    rw [List.countP_eq_length_filter,List.countP_eq_length_filter,List.length_range] at e
    have e2:(List.filter (fun a=>decide (¬ (decide (d a<0))=true)) (List.range n)).length=(List.filter (fun i => ! decide (d i<0)) (List.range n)).length:=by
      congr 1
      refine List.filter_congr fun x _=>?_
      cases decide (d x<0)<;>rfl
    rw [e2] at e
    simp only [eqs,List.length_append,List.length_map,List.length_range]
    unfold cntN at hlt
    omega
  obtain ⟨x,⟨k0,hk0,hx0⟩,hx⟩:=homog eqs (n+n) hl
  have sum2:∀ f:Nat→Rat,sm (n+n) f=sm n f+sm n fun k=>f (n+k):=by
    intro f
    have key:∀ m,sm (n+m) f=sm n f+sm m fun k=>f (n+k):=by
      intro m
      induction m with
      | zero=>show sm n f=sm n f+0;grind
      | succ m ih=>
        show sm (n+m) f+f (n+m)=sm n f+(sm m (fun k=>f (n+k))+f (n+m))
        rw [ih];grind
    exact key n
  have one:∀ p,p<n+n→unit p∈eqs→x p=0:=fun p hp hm=>by
    have h0:=hx _ hm
    rw [sm_one hp fun k _ hne=>by simp [unit,hne]] at h0
    simpa [unit] using h0
  have same:∀ k,k<n→lc n x W k=lc n (fun i=>x (n+i)) W' k:=fun k hk=>by
    have h0:=hx (fun q=>if q<n then W q k else-W' (q-n) k) (by
      refine List.mem_append_left _ (List.mem_append_left _ ?_)
      exact List.mem_map.2 ⟨k,List.mem_range.2 hk,rfl⟩)
    rw [sum2] at h0
    have s1:sm n (fun q=>(if q<n then W q k else-W' (q-n) k)*x q)=lc n x W k:=sm_congr fun q hq=>by
      show (if q<n then W q k else-W' (q-n) k)*x q=x q*W q k
      rw [if_pos hq,Rat.mul_comm]
    have s2:sm n (fun q=>(if n+q<n then W (n+q) k else-W' (n+q-n) k)*x (n+q)) = -1*lc n (fun i=>x (n+i)) W' k:=by
      unfold lc
      rw [← sm_mul]
      refine sm_congr fun q hq=>?_
      show (if n+q<n then W (n+q) k else-W' (n+q-n) k)*x (n+q) = -1*(x (n+q)*W' q k)
      rw [if_neg (by omega),show n+q-n=q by omega]
      exact lin2 _ _
    have h1:lc n x W k + -1*lc n (fun i=>x (n+i)) W' k=0:=by rw [← s1,← s2];exact h0
    exact lin1 h1
  have c0:∀ i,i<n → ¬ d i<0→x i=0:=fun i hi hd=>one i (by omega) (by
    refine List.mem_append_left _ (List.mem_append_right _ ?_)
    exact List.mem_map.2 ⟨i,List.mem_filter.2 ⟨List.mem_range.2 hi,by simpa using hd⟩,rfl⟩)
  have e0:∀ i,i<n→d' i<0→x (n+i)=0:=fun i hi hd=>one (n+i) (by omega) (by
    refine List.mem_append_right _ ?_
    exact List.mem_map.2 ⟨i,List.mem_filter.2 ⟨List.mem_range.2 hi,by simpa using hd⟩,rfl⟩)
  -- one of the first is not 0
  have ne:∃ i,i<n∧x i≠0:=by
    refine Classical.byContradiction fun hn=>?_
    have all:∀ i,i<n→x i=0:=fun i hi=>Classical.byContradiction fun h=>hn ⟨i,hi,h⟩
    have z:∀ k,k<n→lc n (fun i=>x (n+i)) W' k=0:=fun k hk=>by
      rw [← same k hk]
      exact sm_zero fun i hi=>by rw [all i hi];grind
    have all':=h'.ind _ z
    rcases Nat.lt_or_ge k0 n with c | c
    · exact hx0 (all k0 c)
    · have:=all' (k0-n) (by omega)
      rw [show n+(k0-n)=k0 by omega] at this
      exact hx0 this
  obtain ⟨i,hi,hxi⟩:=ne
  have hd:d i<0:=Classical.byContradiction fun h=>hxi (c0 i hi h)
  have va:=h.val x
  have vb:=h'.val fun i=>x (n+i)
  have ve:bil n B (lc n x W) (lc n x W)=bil n B (lc n (fun i=>x (n+i)) W') (lc n (fun i=>x (n+i)) W'):=bil_ext same same
  have le:=hle (lc n x W)
  rw [va,ve,vb] at le
  have neg:0<sm n fun i => - d i*(x i*x i):=sm_pos (i:=i) (fun k hk=>by
    by_cases hdk:d k<0
    · exact Rat.mul_nonneg (Rat.le_of_lt (neg_pos' hdk)) (sq_nonneg _)
    · exact zero_mul' _ _ (c0 k hk hdk)) hi (Rat.mul_pos (neg_pos' hd) (sq_pos hxi))
  have pos:0≤sm n fun i=>d' i*(x (n+i)*x (n+i)):=sm_nonneg fun k hk=>by
    by_cases hdk:d' k<0
    · exact zero_mul' _ _ (e0 k hk hdk)
    · exact Rat.mul_nonneg (Rat.not_lt.1 hdk) (sq_nonneg _)
  have e:sm n (fun i => - d i*(x i*x i)) = -1*sm n fun i=>d i*(x i*x i):=by
    rw [← sm_mul]
    refine sm_congr fun k _=>?_
    show-d k*(x k*x k) = -1*(d k*(x k*x k))
    rw [Rat.neg_mul,Rat.neg_mul,Rat.one_mul]
  rw [e] at neg
  exact no_both neg pos le
end Go.Ine
/-
  Determinants by the first column; what an elimination without fractions divides is divisible. No condition.
-/
namespace Go.Ine
def sg (i:Nat):Rat:=if i%2=0 then 1 else -1
theorem sg_succ (i:Nat):sg (i+1) = - sg i:=by
  unfold sg
  by_cases h:i%2=0
  · have h2 : ¬ (i+1)%2=0:=by omega
    simp only [h,h2,if_true,if_false]
  · have h2:(i+1)%2=0:=by omega
    simp only [h,h2,if_true,if_false]
    grind
def minor (M:Nat→Nat→Rat) (i:Nat):Nat→Nat→Rat:=fun x y=>M (skip i x) (y+1)
def det:Nat→(Nat→Nat→Rat)→Rat
  | 0,_=>1
  | n+1,M=>sm (n+1) fun i=>sg i*M i 0*det n (minor M i)
theorem skip_lt {i x n:Nat} (h:x<n):skip i x<n+1:=by unfold skip;split<;>omega
theorem skip_ne (i x:Nat):skip i x≠i:=by unfold skip;split<;>omega
theorem det_congr:∀ {n:Nat} {M N:Nat→Nat→Rat},(∀ x y,x<n→y<n→M x y=N x y)→det n M=det n N
  | 0,_,_,_=>rfl
  | n+1,M,N,h=>by
    unfold det
    refine sm_congr fun i hi=>?_
    rw [h i 0 hi (by omega),det_congr (n:=n) (M:=minor M i) (N:=minor N i) fun x y hx hy=>h _ _ (skip_lt hx) (by omega)]
theorem sm_int {f:Nat→Rat}:∀ {n:Nat},(∀ k,k<n→∃ z:Int,f k=z)→∃ z:Int,sm n f=z
  | 0,_=>⟨0,rfl⟩
  | n+1,h=>by
    obtain ⟨a,ha⟩:=sm_int (n:=n) fun k hk=>h k (by omega)
    obtain ⟨b,hb⟩:=h n (by omega)
    exact ⟨a+b,by unfold sm;rw [ha,hb,Rat.intCast_add]⟩
theorem det_int:∀ {n:Nat} {M:Nat→Nat→Rat},(∀ x y,x<n→y<n→∃ z:Int,M x y=z)→∃ z:Int,det n M=z
  | 0,_,_=>⟨1,rfl⟩
  | n+1,M,h=>by
    unfold det
    refine sm_int fun i hi=>?_
    obtain ⟨a,ha⟩:=h i 0 hi (by omega)
    obtain ⟨b,hb⟩:=det_int (n:=n) (M:=minor M i) fun x y hx hy=>h _ _ (skip_lt hx) (by omega)
    unfold sg
    split
    · exact ⟨a*b,by rw [ha,hb,Rat.intCast_mul];grind⟩
    · exact ⟨-(a*b),by rw [ha,hb,Rat.intCast_neg,Rat.intCast_mul];grind⟩
def setr (M:Nat→Nat→Rat) (r:Nat) (u:Nat→Rat):Nat→Nat→Rat:=fun x y=>if x=r then u y else M x y
theorem minor_setr_eq (M:Nat→Nat→Rat) (r:Nat) (u:Nat→Rat):minor (setr M r u) r=minor M r:=by
  funext x y
  unfold minor setr
  rw [if_neg (skip_ne r x)]
theorem minor_setr_ne (M:Nat→Nat→Rat) {r i:Nat} (u:Nat→Rat) (h:i≠r):minor (setr M r u) i=setr (minor M i) (if r<i then r else r-1) fun y=>u (y+1):=by
  funext x y
  unfold minor setr
  by_cases c:skip i x=r
  · rw [if_pos c,if_pos]
    unfold skip at c
    split at c<;>split<;>omega
  · rw [if_neg c,if_neg]
    unfold skip at c
    split at c<;>split<;>omega
theorem det_row:∀ {n r:Nat} (M:Nat→Nat→Rat) (u v:Nat→Rat) (c:Rat),r<n→det n (setr M r fun y=>u y+c*v y)=det n (setr M r u)+c*det n (setr M r v)
  | 0,_,_,_,_,_,h=>by omega
  | n+1,r,M,u,v,c,h=>by
    unfold det
    rw [← sm_mul,← sm_add]
    refine sm_congr fun i hi=>?_
    by_cases e:i=r
    · subst e
      rw [minor_setr_eq,minor_setr_eq,minor_setr_eq]
      unfold setr
      rw [if_pos rfl,if_pos rfl,if_pos rfl]
      grind
    · rw [minor_setr_ne M _ e,minor_setr_ne M u e,minor_setr_ne M v e,det_row (minor M i) (fun y=>u (y+1)) (fun y=>v (y+1)) c (by split<;>omega)]
      unfold setr
      rw [if_neg e,if_neg e,if_neg e]
      grind
theorem sm_two {f:Nat→Rat} {n i j:Nat} (hij:i<j) (hj:j<n) (h:∀ k,k<n→k≠i→k≠j→f k=0):sm n f=f i+f j:=by
  induction n with
  | zero=>omega
  | succ n ih=>
    unfold sm
    by_cases c:j=n
    · subst c
      rw [sm_one hij fun k hk hne=>h k (by omega) hne (by omega)]
    · rw [ih (by omega) fun k hk h1 h2=>h k (by omega) h1 h2,h n (by omega) (by omega) (by omega)];grind
theorem det_adj:∀ {n r:Nat} {M:Nat→Nat→Rat},r+1<n→(∀ y,M r y=M (r+1) y)→det n M=0
  | 0,_,_,h,_=>by omega
  | n+1,r,M,h,he=>by
    unfold det
    rw [sm_two (i:=r) (j:=r+1) (by omega) h fun i hi h1 h2=>?_]
    · have em:det n (minor M r)=det n (minor M (r+1)):=det_congr fun x y hx hy=>by
        unfold minor
        by_cases c:x=r
        · subst c
          rw [show skip x x=x+1 by unfold skip;rw [if_neg (by omega)],show skip (x+1) x=x by unfold skip;rw [if_pos (by omega)],he]
        · have:skip r x=skip (r+1) x:=by unfold skip;split<;>split<;>omega
          rw [this]
      rw [em,he 0,sg_succ];grind
    · have:det n (minor M i)=0:=by
        by_cases c:i<r
        · refine det_adj (r:=r-1) (by omega) fun y=>?_
          unfold minor
          rw [show skip i (r-1)=r by unfold skip;rw [if_neg (by omega)];omega,show skip i (r-1+1)=r+1 by unfold skip;rw [if_neg (by omega)];omega,he]
        · refine det_adj (r:=r) (by omega) fun y=>?_
          unfold minor
          rw [show skip i r=r by unfold skip;rw [if_pos (by omega)],show skip i (r+1)=r+1 by unfold skip;rw [if_pos (by omega)],he]
      rw [this];grind
theorem setr_self (M:Nat→Nat→Rat) (r:Nat):setr M r (M r)=M:=by
  funext x y
  unfold setr
  split
  · rename_i h;rw [h]
  · rfl
theorem setr_comm (M:Nat→Nat→Rat) {r s:Nat} (h:r≠s) (u v:Nat→Rat):setr (setr M r u) s v=setr (setr M s v) r u:=by
  funext x y
  unfold setr
  split<;>split<;>first | rfl | omega
theorem det_swap {n r:Nat} (M:Nat→Nat→Rat) (u v:Nat→Rat) (h:r+1<n):det n (setr (setr M r u) (r+1) v) = - det n (setr (setr M r v) (r+1) u):=by
  have z:∀ w,det n (setr (setr M r w) (r+1) w)=0:=fun w=>det_adj h fun y=>by
    unfold setr
    rw [if_neg (by omega),if_pos rfl,if_pos rfl]
  have lin1:∀ a b w,det n (setr (setr M r fun y=>a y+1*b y) (r+1) w)=det n (setr (setr M r a) (r+1) w)+1*det n (setr (setr M r b) (r+1) w):=fun a b w=>by
    have hne:r≠r+1:=by omega
    rw [setr_comm M hne (fun y=>a y+1*b y) w,setr_comm M hne a w,setr_comm M hne b w]
    exact det_row _ a b 1 (by omega)
  have lin2:∀ a b w,det n (setr (setr M r w) (r+1) fun y=>a y+1*b y)=det n (setr (setr M r w) (r+1) a)+1*det n (setr (setr M r w) (r+1) b):=fun a b w=>det_row _ a b 1 h
  have e:=z fun y=>u y+1*v y
  rw [lin1,lin2,lin2,z u,z v] at e
  grind
theorem det_eq0:∀ {n i:Nat} {M:Nat→Nat→Rat},i+1<n→(∀ y,M 0 y=M (i+1) y)→det n M=0
  | n,0,M,h,he=>det_adj (r:=0) h he
  | n,i+1,M,h,he=>by
    have e1:M=setr (setr M (i+1) (M (i+1))) (i+1+1) (M (i+1+1)):=by rw [setr_self,setr_self]
    rw [e1,det_swap M _ _ h]
    have:det n (setr (setr M (i+1) (M (i+1+1))) (i+1+1) (M (i+1)))=0:=det_eq0 (i:=i) (by omega) fun y=>by
      unfold setr
      rw [if_neg (by omega),if_neg (by omega),if_neg (by omega),if_pos rfl]
      exact he y
    rw [this];grind
theorem det_op {n r:Nat} (M:Nat→Nat→Rat) (c:Rat) (h0:0<r) (h:r<n):det n (setr M r fun y=>M r y+c*M 0 y)=det n M:=by
  rw [det_row M (M r) (M 0) c h,setr_self]
  have:det n (setr M r (M 0))=0:=by
    obtain ⟨i,rfl⟩:∃ i,r=i+1:=⟨r-1,by omega⟩
    refine det_eq0 (i:=i) h fun y=>?_
    unfold setr
    rw [if_neg (by omega),if_pos rfl]
  rw [this];grind
def one (M:Nat→Nat→Rat):Nat→Nat→Rat:=fun x y=>M (x+1) (y+1)-M (x+1) 0*M 0 (y+1)/M 0 0
theorem det_one {n:Nat} {M:Nat→Nat→Rat} (h:M 0 0≠0):det (n+1) M=M 0 0*det n (one M):=by
  let red (k:Nat):Nat→Nat→Rat:=fun x y=>if 1≤x∧x≤k then M x y-M x 0/M 0 0*M 0 y else M x y
  have st:∀ k,k≤n→det (n+1) (red k)=det (n+1) M:=by
    intro k
    induction k with
    | zero=>
      intro _
      refine det_congr fun x y _ _=>?_
      show (if 1≤x∧x≤0 then _ else M x y)=_
      rw [if_neg (by omega)]
    | succ k ih=>
      intro hk
      rw [← ih (by omega),← det_op (red k) (- (M (k+1) 0/M 0 0)) (show 0<k+1 by omega) (by omega)]
      refine det_congr fun x y _ _=>?_
      show (if 1≤x∧x≤k+1 then _ else M x y)=(if x=k+1 then (if 1≤k+1∧k+1≤k then _ else M (k+1) y) + - (M (k+1) 0/M 0 0)*(if 1≤0∧0≤k then _ else M 0 y) else (if 1≤x∧x≤k then _ else M x y))
      by_cases c:x=k+1
      · subst c
        rw [if_pos (by omega),if_pos rfl,if_neg (by omega),if_neg (by omega)];grind
      · rw [if_neg c]
        by_cases c2:1≤x∧x≤k
        · rw [if_pos (by omega),if_pos c2]
        · rw [if_neg (by omega),if_neg c2]
  rw [← st n (Nat.le_refl _),show det (n+1) (red n)=sm (n+1) (fun i=>sg i*red n i 0*det n (minor (red n) i)) from rfl]
  rw [sm_one (i:=0) (by omega) fun k hk hne=>?_]
  · show sg 0*(if 1≤0∧0≤n then _ else M 0 0)*det n (minor (red n) 0)=_
    rw [if_neg (by omega),show sg 0=1 from rfl,det_congr (M:=minor (red n) 0) (N:=one M) fun x y hx hy=>?_]
    · grind
    · show (if 1≤skip 0 x∧skip 0 x≤n then M (skip 0 x) (y+1)-M (skip 0 x) 0/M 0 0*M 0 (y+1) else _)=_
      have e:skip 0 x=x+1:=by unfold skip;rw [if_neg (by omega)]
      rw [e,if_pos (by omega)]
      unfold one
      grind
  · show sg k*(if 1≤k∧k≤n then M k 0-M k 0/M 0 0*M 0 0 else _)*_=0
    rw [if_pos (by omega)]
    have:M k 0-M k 0/M 0 0*M 0 0=0:=by grind
    rw [this];grind
def sch (C:Nat→Nat→Rat):Nat→Nat→Nat→Rat
  | 0,i,j=>C i j
  | k+1,i,j=>sch C k i j-sch C k i k*sch C k k j/sch C k k k
def prd (C:Nat→Nat→Rat):Nat→Rat
  | 0=>1
  | k+1=>prd C k*sch C k k k
theorem sch_one (C:Nat→Nat→Rat):∀ k x y,sch (one C) k x y=sch C (k+1) (x+1) (y+1)
  | 0,_,_=>rfl
  | k+1,x,y=>by
    show sch (one C) k x y-sch (one C) k x k*sch (one C) k k y/sch (one C) k k k=_
    rw [sch_one C k x y,sch_one C k x k,sch_one C k k y,sch_one C k k k];rfl
theorem prd_one (C:Nat→Nat→Rat):∀ k,prd C (k+1)=C 0 0*prd (one C) k
  | 0=>by show 1*C 0 0=C 0 0*1;grind
  | k+1=>by
    show prd C (k+1)*sch C (k+1) (k+1) (k+1)=C 0 0*(prd (one C) k*sch (one C) k k k)
    rw [prd_one C k,sch_one];grind
def bord (C:Nat→Nat→Rat) (k i j:Nat):Nat→Nat→Rat:=fun x y=>C (if x<k then x else i) (if y<k then y else j)
theorem det_bord:∀ (k:Nat) (C:Nat→Nat→Rat) (i j:Nat),k≤i→k≤j→(∀ m,m<k→sch C m m m≠0)→det (k+1) (bord C k i j)=prd C k*sch C k i j
  | 0,C,i,j,_,_,_=>by
    show (0:Rat)+sg 0*C i j*1=1*C i j
    rw [show sg 0=1 from rfl];grind
  | k+1,C,i,j,hi,hj,h=>by
    have h0:bord C (k+1) i j 0 0=C 0 0:=by unfold bord;rw [if_pos (by omega),if_pos (by omega)]
    have hc:C 0 0≠0:=h 0 (by omega)
    rw [det_one (by rw [h0];exact hc),h0,prd_one]
    obtain ⟨i,rfl⟩:∃ q,i=q+1:=⟨i-1,by omega⟩
    obtain ⟨j,rfl⟩:∃ q,j=q+1:=⟨j-1,by omega⟩
    have ih:=det_bord k (one C) i j (by omega) (by omega) fun m hm=>by rw [sch_one];exact h (m+1) (by omega)
    rw [← sch_one,Rat.mul_assoc,← ih]
    congr 1
    refine det_congr fun x y hx hy=>?_
    unfold one
    rw [h0]
    have a1:(if x+1<k+1 then x+1 else i+1)=(if x<k then x else i)+1:=by split<;>split<;>omega
    have a2:(if y+1<k+1 then y+1 else j+1)=(if y<k then y else j)+1:=by split<;>split<;>omega
    have b1:bord C (k+1) (i+1) (j+1) (x+1) (y+1)=C ((if x<k then x else i)+1) ((if y<k then y else j)+1):=by unfold bord;rw [a1,a2]
    have b2:bord C (k+1) (i+1) (j+1) (x+1) 0=C ((if x<k then x else i)+1) 0:=by unfold bord;rw [a1,if_pos (show 0<k+1 by omega)]
    have b3:bord C (k+1) (i+1) (j+1) 0 (y+1)=C 0 ((if y<k then y else j)+1):=by unfold bord;rw [a2,if_pos (show 0<k+1 by omega)]
    rw [b1,b2,b3]
    rfl
theorem sch_int {C:Nat→Nat→Rat} (hC:∀ x y,∃ z:Int,C x y=z) {k i j:Nat} (hi:k≤i) (hj:k≤j) (h:∀ m,m<k→sch C m m m≠0):∃ z:Int,prd C k*sch C k i j=z:=by
  rw [← det_bord k C i j hi hj h]
  exact det_int fun x y _ _=>hC _ _
end Go.Ine
/-
  Signs of a symmetric matrix: what an elimination without fractions, with rows put together and exchanged, keeps; what it tells at its end. No condition.
-/
namespace Go.Ine
def unit (i:Nat):Nat→Rat:=fun k=>if k=i then 1 else 0
theorem bil_unit {n:Nat} {C:Nat→Nat→Rat} {i j:Nat} (hi:i<n) (hj:j<n):bil n C (unit i) (unit j)=C i j:=by
  unfold bil
  rw [sm_one hi fun k hk hne=>sm_zero fun q _=>by unfold unit;rw [if_neg hne];grind,sm_one hj fun k hk hne=>by unfold unit;rw [if_neg hne];grind]
  unfold unit;rw [if_pos rfl,if_pos rfl];grind
theorem bil_add_l (n:Nat) (C:Nat→Nat→Rat) (x x' y:Nat→Rat):bil n C (fun k=>x k+x' k) y=bil n C x y+bil n C x' y:=by
  unfold bil
  rw [← sm_add]
  refine sm_congr fun i _=>?_
  rw [← sm_add]
  exact sm_congr fun j _=>by grind
theorem bil_add_r (n:Nat) (C:Nat→Nat→Rat) (x y y':Nat→Rat):bil n C x (fun k=>y k+y' k)=bil n C x y+bil n C x y':=by
  unfold bil
  rw [← sm_add]
  refine sm_congr fun i _=>?_
  rw [← sm_add]
  exact sm_congr fun j _=>by grind
theorem lc_lc (n:Nat) (c:Nat→Rat) (W E:Nat→Nat→Rat) (q:Nat):lc n c (fun i=>lc n (W i) E) q=lc n (lc n c W) E q:=by
  unfold lc
  rw [sm_congr (g:=fun i=>sm n fun a=>c i*(W i a*E a q)) fun i _=>by rw [sm_mul],sm_swap]
  exact sm_congr fun a _=>by
    rw [← sm_mulr]
    exact sm_congr fun i _=>by grind
def Cong (n:Nat) (A C:Nat→Nat→Rat):Prop:=∀ W d,Diag n C W d→∃ W',Diag n A W' d
theorem Cong.refl (n:Nat) (A:Nat→Nat→Rat):Cong n A A:=fun W _ h=>⟨W,h⟩
theorem Cong.trans {n:Nat} {A B C:Nat→Nat→Rat} (h:Cong n A B) (k:Cong n B C):Cong n A C:=fun W d hd=>by
  obtain ⟨W',h'⟩:=k W d hd
  exact h W' d h'
theorem cong_of {n:Nat} {A C E:Nat→Nat→Rat} (hE:∀ i j,i<n→j<n→C i j=bil n A (E i) (E j)) (ind:∀ c:Nat→Rat,(∀ k,k<n→lc n c E k=0)→∀ i,i<n→c i=0):Cong n A C:=by
  intro W d h
  refine ⟨fun i=>lc n (W i) E,⟨fun i j hi hj=>?_,fun c hc i hi=>?_⟩⟩
  · rw [← h.is i j hi hj,bil_l]
    show _=sm n fun a=>sm n fun b=>W i a*C a b*W j b
    refine sm_congr fun a ha=>?_
    rw [bil_r,← sm_mul]
    exact sm_congr fun b hb=>by rw [hE a b ha hb];grind
  · refine h.ind c (fun k hk=>ind (lc n c W) (fun q hq=>?_) k hk) i hi
    rw [← lc_lc]
    exact hc q hq
def addop (a b:Nat) (C:Nat→Nat→Rat):Nat→Nat→Rat:=fun i j=>C i j+(if i=a then C b j else 0)+(if j=a then C i b else 0)+(if i=a∧j=a then C b b else 0)
theorem cong_add {n a b:Nat} (C:Nat→Nat→Rat) (ha:a<n) (hb:b<n) (hab:a≠b):Cong n C (addop a b C):=by
  let E:Nat→Nat→Rat:=fun i k=>unit i k+if i=a then unit b k else 0
  have e1:∀ i,i≠a→E i=unit i:=fun i h=>by funext k;show unit i k+_=_;rw [if_neg h];grind
  have e2:E a=fun k=>unit a k+unit b k:=by funext k;show unit a k+_=_;rw [if_pos rfl]
  refine cong_of (E:=E) (fun i j hi hj=>?_) (fun c hc=>?_)
  · unfold addop
    by_cases c1:i=a
    · by_cases c2:j=a
      · subst c1;subst c2
        rw [if_pos rfl,if_pos rfl,if_pos ⟨rfl,rfl⟩,e2,bil_add_l,bil_add_r,bil_add_r,bil_unit ha ha,bil_unit ha hb,bil_unit hb ha,bil_unit hb hb]
        grind
      · subst c1
        rw [if_pos rfl,if_neg c2,if_neg (by rintro ⟨_,h⟩;exact c2 h),e2,e1 j c2,bil_add_l,bil_unit ha hj,bil_unit hb hj]
        grind
    · by_cases c2:j=a
      · subst c2
        rw [if_neg c1,if_pos rfl,if_neg (by rintro ⟨h,_⟩;exact c1 h),e2,e1 i c1,bil_add_r,bil_unit hi ha,bil_unit hi hb]
        grind
      · rw [if_neg c1,if_neg c2,if_neg (by rintro ⟨h,_⟩;exact c1 h),e1 i c1,e1 j c2,bil_unit hi hj]
        grind
  · have val:∀ k,k<n→lc n c E k=c k+if k=b then c a else 0:=fun k hk=>by
      unfold lc
      by_cases hkb:k=b
      · subst hkb
        have hlt:a<k∨k<a:=by omega
        have z:∀ q,q<n→q≠a→q≠k→c q*E q k=0:=fun q _ h1 h2=>by
          rw [e1 q h1];unfold unit;rw [if_neg (by omega)];grind
        have va:E a k=1:=by rw [e2];show unit a k+unit k k=1;unfold unit;rw [if_neg (by omega),if_pos rfl];grind
        have vk:E k k=1:=by rw [e1 k (by omega)];unfold unit;rw [if_pos rfl]
        rw [if_pos rfl]
        rcases hlt with h | h
        · rw [sm_two h hk fun q hq h1 h2=>z q hq h1 h2,va,vk];grind
        · rw [sm_two h ha fun q hq h1 h2=>z q hq h2 h1,va,vk];grind
      · rw [if_neg hkb,sm_one hk fun q hq hne=>?_]
        · have:E k k=1:=by
            by_cases h:k=a
            · subst h;rw [e2];show unit k k+unit b k=1;unfold unit;rw [if_pos rfl,if_neg hkb];grind
            · rw [e1 k h];unfold unit;rw [if_pos rfl]
          rw [this];grind
        · by_cases h:q=a
          · subst h;rw [e2];show c q*(unit q k+unit b k)=0;unfold unit;rw [if_neg (by omega),if_neg hkb];grind
          · rw [e1 q h];unfold unit;rw [if_neg (by omega)];grind
    have h0:∀ k,k<n→k≠b→c k=0:=fun k hk hne=>by
      have:=hc k hk
      rw [val k hk,if_neg hne] at this
      grind
    intro i hi
    by_cases hib:i=b
    · subst hib
      have:=hc i hi
      rw [val i hi,if_pos rfl,h0 a ha hab] at this
      grind
    · exact h0 i hi hib
def swp (a b i:Nat):Nat:=if i=a then b else if i=b then a else i
theorem swp_lt {a b i n:Nat} (ha:a<n) (hb:b<n) (hi:i<n):swp a b i<n:=by
  unfold swp
  repeat' split
  all_goals omega
theorem swp_swp (a b i:Nat):swp a b (swp a b i)=i:=by
  unfold swp
  repeat' split
  all_goals omega
theorem cong_swap {n a b:Nat} (C:Nat→Nat→Rat) (ha:a<n) (hb:b<n):Cong n C fun i j=>C (swp a b i) (swp a b j):=by
  refine cong_of (E:=fun i=>unit (swp a b i)) (fun i j hi hj=>?_) (fun c hc i hi=>?_)
  · rw [bil_unit (swp_lt ha hb hi) (swp_lt ha hb hj)]
  · have h0:=hc (swp a b i) (swp_lt ha hb hi)
    unfold lc at h0
    rw [sm_one hi fun k hk hne=>?_] at h0
    · have h1:c i*unit (swp a b i) (swp a b i)=0:=h0
      unfold unit at h1
      rw [if_pos rfl] at h1
      grind
    · have h2:swp a b i≠swp a b k:=fun h=>hne (by rw [← swp_swp a b k,← h,swp_swp])
      show c k*unit (swp a b k) (swp a b i)=0
      unfold unit
      rw [if_neg h2]
      grind
theorem sch_sym {C:Nat→Nat→Rat} (h:∀ x y,C x y=C y x):∀ k i j,sch C k i j=sch C k j i
  | 0,i,j=>h i j
  | k+1,i,j=>by
    show sch C k i j-sch C k i k*sch C k k j/sch C k k k=sch C k j i-sch C k j k*sch C k k i/sch C k k k
    rw [sch_sym h k i j,sch_sym h k i k,sch_sym h k k j];grind
theorem sch_add {C:Nat→Nat→Rat} {a b K:Nat} (ha:K≤a) (hb:K≤b):∀ k,k≤K→∀ i j,sch (addop a b C) k i j=addop a b (sch C k) i j
  | 0,_,_,_=>rfl
  | k+1,hk,i,j=>by
    have ih:=sch_add (C:=C) ha hb k (by omega)
    have hka:k≠a:=by omega
    show sch (addop a b C) k i j-sch (addop a b C) k i k*sch (addop a b C) k k j/sch (addop a b C) k k k=addop a b (sch C (k+1)) i j
    rw [ih i j,ih i k,ih k j,ih k k]
    have s:∀ x y,sch C (k+1) x y=sch C k x y-sch C k x k*sch C k k y/sch C k k k:=fun _ _=>rfl
    unfold addop
    rw [s,s,s,s]
    by_cases c1:i=a<;>by_cases c2:j=a<;>simp only [c1,c2,hka,if_true,if_false,and_true,and_false,and_self]<;>grind
theorem sch_swap {C:Nat→Nat→Rat} {a b K:Nat} (ha:K≤a) (hb:K≤b):∀ k,k≤K→∀ i j,sch (fun x y=>C (swp a b x) (swp a b y)) k i j=sch C k (swp a b i) (swp a b j)
  | 0,_,_,_=>rfl
  | k+1,hk,i,j=>by
    have ih:=sch_swap (C:=C) ha hb k (by omega)
    have hkk:swp a b k=k:=by unfold swp;rw [if_neg (by omega),if_neg (by omega)]
    show sch (fun x y=>C (swp a b x) (swp a b y)) k i j-sch (fun x y=>C (swp a b x) (swp a b y)) k i k*sch (fun x y=>C (swp a b x) (swp a b y)) k k j/sch (fun x y=>C (swp a b x) (swp a b y)) k k k=_
    rw [ih i j,ih i k,ih k j,ih k k,hkk];rfl
theorem prd_congr {C C':Nat→Nat→Rat}:∀ {k:Nat},(∀ m,m<k→sch C' m m m=sch C m m m)→prd C' k=prd C k
  | 0,_=>rfl
  | k+1,h=>by
    show prd C' k*sch C' k k k=prd C k*sch C k k k
    rw [prd_congr (k:=k) fun m hm=>h m (by omega),h k (by omega)]
theorem prd_ne {C:Nat→Nat→Rat}:∀ {k:Nat},(∀ m,m<k→sch C m m m≠0)→prd C k≠0
  | 0,_=>by show (1:Rat)≠0;decide
  | k+1,h=>by
    show prd C k*sch C k k k≠0
    intro h0
    rcases Rat.mul_eq_zero.1 h0 with h0 | h0
    · exact prd_ne (k:=k) (fun m hm=>h m (by omega)) h0
    · exact h k (by omega) h0
theorem ldl:∀ (n:Nat) (C:Nat→Nat→Rat) (k:Nat),k≤n→(∀ x y,C x y=C y x)→(∀ m,m<k→sch C m m m≠0)→(∀ i j,k≤i→i<n→k≤j→j<n→sch C k i j=0)→∃ W,Diag n C W fun m=>if m<k then sch C m m m else 0
  | n,C,0,_,_,_,h=>by
    refine ⟨unit,⟨fun i j hi hj=>?_,fun c hc i hi=>?_⟩⟩
    · rw [bil_unit hi hj,show C i j=sch C 0 i j from rfl,h i j (by omega) hi (by omega) hj]
      split<;>rfl
    · have:=hc i hi
      unfold lc at this
      rw [sm_one hi fun k hk hne=>by unfold unit;rw [if_neg (by omega)];grind] at this
      unfold unit at this
      rw [if_pos rfl] at this
      grind
  | 0,C,k+1,hk,_,_,_=>by omega
  | n+1,C,k+1,hk,hs,hp,h=>by
    have hc:C 0 0≠0:=hp 0 (by omega)
    obtain ⟨W,hW⟩:=ldl n (one C) k (by omega) (fun x y=>by unfold one;rw [hs (x+1) (y+1),hs (x+1) 0,hs 0 (y+1)];grind) (fun m hm=>by rw [sch_one];exact hp (m+1) (by omega))
      (fun i j h1 h2 h3 h4=>by rw [sch_one];exact h _ _ (by omega) (by omega) (by omega) (by omega))
    let al (i:Nat):Rat:=sm n fun q=>C 0 (q+1)*W i q
    let V:Nat→Nat→Rat:=fun i q=>match i,q with
      | 0,0=>1
      | 0,_+1=>0
      | i+1,0 => - al i/C 0 0
      | i+1,q+1=>W i q
    -- the form on columns that begin with a number
    have split2:∀ x y:Nat→Rat,bil (n+1) C x y=x 0*C 0 0*y 0+x 0*sm n (fun q=>C 0 (q+1)*y (q+1))+y 0*sm n (fun q=>C 0 (q+1)*x (q+1))+sm n (fun p=>sm n fun q=>x (p+1)*C (p+1) (q+1)*y (q+1)):=fun x y=>by
      have t:sm n (fun p=>sm (n+1) fun j=>x (p+1)*C (p+1) j*y j)=y 0*sm n (fun q=>C 0 (q+1)*x (q+1))+sm n (fun p=>sm n fun q=>x (p+1)*C (p+1) (q+1)*y (q+1)):=by
        rw [← sm_mul,← sm_add]
        refine sm_congr fun p _=>?_
        rw [sm_head,hs (p+1) 0];grind
      have t0:sm (n+1) (fun j=>x 0*C 0 j*y j)=x 0*C 0 0*y 0+x 0*sm n (fun q=>C 0 (q+1)*y (q+1)):=by
        rw [sm_head,← sm_mul]
        congr 1
        exact sm_congr fun q _=>by grind
      unfold bil
      rw [sm_head,t0,t];grind
    have oneB:∀ i j,bil n (one C) (W i) (W j)=sm n (fun p=>sm n fun q=>W i p*C (p+1) (q+1)*W j q)-al i*al j/C 0 0:=fun i j=>by
      have e:sm n (fun p=>sm n fun q=>W i p*C (p+1) (q+1)*W j q)=bil n (one C) (W i) (W j)+sm n (fun p=>sm n fun q=>(C 0 (p+1)*W i p)*((C 0 (q+1)*W j q)/C 0 0)):=by
        unfold bil
        rw [← sm_add]
        refine sm_congr fun p _=>?_
        rw [← sm_add]
        refine sm_congr fun q _=>?_
        unfold one
        rw [hs (p+1) 0]
        grind
      have e2:sm n (fun p=>sm n fun q=>(C 0 (p+1)*W i p)*((C 0 (q+1)*W j q)/C 0 0))=al i*al j/C 0 0:=by
        rw [sm_congr (g:=fun p=>(C 0 (p+1)*W i p)*(al j/C 0 0)) fun p _=>?_,sm_mulr]
        · show al i*(al j/C 0 0)=_;grind
        · rw [sm_mul,sm_congr (g:=fun q=>(C 0 (q+1)*W j q)*(1/C 0 0)) fun q _=>by grind,sm_mulr]
          show _*(al j*(1/C 0 0))=_
          grind
      rw [e,e2];grind
    refine ⟨V,⟨fun i j hi hj=>?_,fun c hcc i hi=>?_⟩⟩
    · rw [split2]
      have v0:∀ q,V 0 (q+1)=0:=fun _=>rfl
      have v00:V 0 0=1:=rfl
      have vs:∀ i q,V (i+1) (q+1)=W i q:=fun _ _=>rfl
      have vs0:∀ i,V (i+1) 0 = - al i/C 0 0:=fun _=>rfl
      have z0:sm n (fun q=>C 0 (q+1)*V 0 (q+1))=0:=sm_zero fun q _=>by rw [v0 q];grind
      have sa:∀ i,sm n (fun q=>C 0 (q+1)*V (i+1) (q+1))=al i:=fun _=>rfl
      match i,j with
      | 0,0=>
        rw [z0,sm_zero fun p _=>sm_zero fun q _=>by rw [v0 p];grind,v00,if_pos rfl,if_pos (by omega)]
        show _=C 0 0
        grind
      | 0,j+1=>
        rw [z0,sa,sm_zero fun p _=>sm_zero fun q _=>by rw [v0 p];grind,v00,vs0,if_neg (by omega)]
        grind
      | i+1,0=>
        rw [z0,sa,sm_zero fun p _=>sm_zero fun q _=>by rw [v0 q];grind,v00,vs0,if_neg (by omega)]
        grind
      | i+1,j+1=>
        rw [sa,sa,vs0,vs0]
        have hd:=hW.is i j (by omega) (by omega)
        rw [oneB] at hd
        have e:(if i+1=j+1 then (if i+1<k+1 then sch C (i+1) (i+1) (i+1) else 0) else 0)=if i=j then (if i<k then sch (one C) i i i else 0) else 0:=by
          rw [sch_one]
          by_cases c1:i=j
          · by_cases c2:i<k
            · rw [if_pos (by omega),if_pos (by omega),if_pos c1,if_pos c2]
            · rw [if_pos (by omega),if_neg (by omega),if_pos c1,if_neg c2]
          · rw [if_neg (by omega),if_neg c1]
        rw [e,← hd]
        show _+sm n (fun p=>sm n fun q=>W i p*C (p+1) (q+1)*W j q)=_
        grind
    · have tail:∀ i,i<n→c (i+1)=0:=hW.ind (fun i=>c (i+1)) fun q hq=>by
        have:=hcc (q+1) (by omega)
        unfold lc at this
        rw [sm_head] at this
        have e:c 0*V 0 (q+1)=0:=by show c 0*0=0;grind
        rw [e] at this
        show sm n (fun i=>c (i+1)*V (i+1) (q+1))=0
        grind
      match i with
      | i+1=>exact tail i (by omega)
      | 0=>
        have:=hcc 0 (by omega)
        unfold lc at this
        rw [sm_head,sm_zero fun i hi=>by rw [tail i hi];grind] at this
        have e:c 0*V 0 0=c 0:=by show c 0*1=c 0;grind
        rw [e] at this
        grind
end Go.Ine
/-
  The state of an elimination without fractions, step by step; the signs of a matrix are its own. No condition.
-/
namespace Go.Ine
theorem cntP_congr {n:Nat} {d d':Nat→Rat} (h:∀ k,k<n→d k=d' k):cntP n d=cntP n d':=by
  unfold cntP
  congr 1
  refine List.filter_congr fun k hk=>?_
  rw [h k (List.mem_range.1 hk)]
theorem cntN_congr {n:Nat} {d d':Nat→Rat} (h:∀ k,k<n→d k=d' k):cntN n d=cntN n d':=by
  unfold cntN
  congr 1
  refine List.filter_congr fun k hk=>?_
  rw [h k (List.mem_range.1 hk)]
theorem cntP_succ (n:Nat) (d:Nat→Rat):cntP (n+1) d=cntP n d+if 0<d n then 1 else 0:=by
  unfold cntP
  rw [List.range_succ,List.filter_append,List.length_append]
  congr 1
  by_cases h:0<d n
  · rw [if_pos h,List.filter_cons_of_pos (by simpa using h)];rfl
  · rw [if_neg h,List.filter_cons_of_neg (by simpa using h)];rfl
theorem cntN_succ (n:Nat) (d:Nat→Rat):cntN (n+1) d=cntN n d+if d n<0 then 1 else 0:=by
  unfold cntN
  rw [List.range_succ,List.filter_append,List.length_append]
  congr 1
  by_cases h:d n<0
  · rw [if_pos h,List.filter_cons_of_pos (by simpa using h)];rfl
  · rw [if_neg h,List.filter_cons_of_neg (by simpa using h)];rfl
theorem cnt_more {n k:Nat} {d:Nat→Rat} (h:∀ m,k≤m→m<n→d m=0) (hk:k≤n):cntP n d=cntP k d∧cntN n d=cntN k d:=by
  induction n with
  | zero=>
    obtain rfl:k=0:=by omega
    exact ⟨rfl,rfl⟩
  | succ n ih=>
    by_cases c:k=n+1
    · subst c;exact ⟨rfl,rfl⟩
    · obtain ⟨a,b⟩:=ih (fun m h1 h2=>h m h1 (by omega)) (by omega)
      have z:=h n (by omega) (by omega)
      rw [cntP_succ,cntN_succ,z,a,b,if_neg (by decide)]
      exact ⟨rfl,rfl⟩
def Sig (n:Nat) (A:Nat→Nat→Rat) (below above:Nat):Prop:=∃ W d,Diag n A W d∧cntN n d=below∧cntP n d=above
theorem Diag.neg {n:Nat} {A W:Nat→Nat→Rat} {d:Nat→Rat} (h:Diag n A W d):Diag n (fun i j => - A i j) W (fun i => - d i):=by
  refine ⟨fun i j hi hj=>?_,h.ind⟩
  have e:bil n (fun i j => - A i j) (W i) (W j) = - bil n A (W i) (W j):=by
    have : - bil n A (W i) (W j) = -1*bil n A (W i) (W j):=by grind
    rw [this]
    unfold bil
    rw [← sm_mul]
    refine sm_congr fun p _=>?_
    rw [← sm_mul]
    exact sm_congr fun q _=>by grind
  rw [e,h.is i j hi hj]
  split<;>grind
theorem cnt_neg (n:Nat) (d:Nat→Rat):cntN n (fun i => - d i)=cntP n d∧cntP n (fun i => - d i)=cntN n d:=by
  unfold cntN cntP
  constructor<;>congr 1<;>refine List.filter_congr fun k _=>?_<;>rw [decide_eq_decide]<;>grind
theorem Sig.cong {n:Nat} {A C:Nat→Nat→Rat} {b a:Nat} (hc:Cong n A C) (h:Sig n C b a):Sig n A b a:=by
  obtain ⟨W,d,hd,h1,h2⟩:=h
  obtain ⟨W',hd'⟩:=hc W d hd
  exact ⟨W',d,hd',h1,h2⟩
theorem Sig.neg {n:Nat} {A:Nat→Nat→Rat} {b a:Nat} (h:Sig n A b a):Sig n (fun i j => - A i j) a b:=by
  obtain ⟨W,d,hd,rfl,rfl⟩:=h
  exact ⟨W,_,hd.neg,(cnt_neg n d).1,(cnt_neg n d).2⟩
theorem Diag.ext {n:Nat} {A B W:Nat→Nat→Rat} {d:Nat→Rat} (h:Diag n A W d) (e:∀ i j,i<n→j<n→B i j=A i j):Diag n B W d:=
  ⟨fun i j hi hj=>by
    rw [← h.is i j hi hj]
    exact sm_congr fun p hp=>sm_congr fun q hq=>by rw [e p q hp hq],h.ind⟩
theorem Sig.ext {n:Nat} {A B:Nat→Nat→Rat} {b a:Nat} (h:Sig n A b a) (e:∀ i j,i<n→j<n→B i j=A i j):Sig n B b a:=by
  obtain ⟨W,d,hd,h1,h2⟩:=h
  exact ⟨W,d,hd.ext e,h1,h2⟩
theorem Sig.scale {n:Nat} {A:Nat→Nat→Rat} {b a:Nat} {c:Rat} (hc:0<c) (h:Sig n A b a):Sig n (fun i j=>c*A i j) b a:=by
  obtain ⟨W,d,hd,rfl,rfl⟩:=h
  refine ⟨W,fun i=>c*d i,⟨fun i j hi hj=>?_,hd.ind⟩,?_,?_⟩
  · have e:bil n (fun i j=>c*A i j) (W i) (W j)=c*bil n A (W i) (W j):=by
      unfold bil
      rw [← sm_mul]
      refine sm_congr fun p _=>?_
      rw [← sm_mul]
      exact sm_congr fun q _=>by grind
    rw [e,hd.is i j hi hj]
    split<;>grind
  · unfold cntN;congr 1;refine List.filter_congr fun k _=>?_
    rw [decide_eq_decide]
    constructor
    · intro h;exact Classical.byContradiction fun h2=>by have:=Rat.mul_nonneg (a:=c) (b:=d k) (by grind) (by grind);grind
    · intro h;have:=Rat.mul_pos (a:=c) (b := - d k) hc (by grind);grind
  · unfold cntP;congr 1;refine List.filter_congr fun k _=>?_
    rw [decide_eq_decide]
    constructor
    · intro h;exact Classical.byContradiction fun h2=>by have:=Rat.mul_nonneg (a:=c) (b := - d k) (by grind) (by grind);grind
    · intro h;exact Rat.mul_pos hc h
theorem Sig.diag (n:Nat) (d:Nat→Rat):Sig n (fun i j=>if i=j then d i else 0) (cntN n d) (cntP n d):=by
  refine ⟨unit,d,⟨fun i j hi hj=>bil_unit hi hj,fun c hc i hi=>?_⟩,rfl,rfl⟩
  have:=hc i hi
  unfold lc at this
  rw [sm_one hi fun k hk hne=>by unfold unit;rw [if_neg (by omega)];grind] at this
  unfold unit at this
  rw [if_pos rfl] at this
  grind
theorem Sig.mono {n:Nat} {A B:Nat→Nat→Rat} {b a b' a':Nat} (h:Sig n A b a) (h':Sig n B b' a') (hle:∀ v,bil n B v v≤bil n A v v):b≤b':=by
  obtain ⟨W,d,hd,rfl,rfl⟩:=h
  obtain ⟨W',d',hd',rfl,rfl⟩:=h'
  exact cross hd hd' hle
structure Core (n:Nat) (A:Nat→Nat→Rat) (k:Nat) (C:Nat→Nat→Rat):Prop where
  int:∀ x y,∃ z:Int,C x y=z
  sym:∀ x y,C x y=C y x
  cong:Cong n A C
  piv:∀ m,m<k→sch C m m m≠0
def Inv (n:Nat) (A:Nat→Nat→Rat) (k:Nat) (R:Nat→Nat→Int) (last:Int) (below above:Nat):Prop:=
  ∃ C,Core n A k C∧(∀ i j,k≤i→i<n→k≤j→j<n→(R i j:Rat)=prd C k*sch C k i j)∧(last:Rat)=prd C k∧cntN k (fun m=>sch C m m m)=below∧cntP k (fun m=>sch C m m m)=above
theorem Inv.init {n:Nat} {R:Nat→Nat→Int} (hs:∀ x y,R x y=R y x):Inv n (fun i j=>(R i j:Rat)) 0 R 1 0 0:=
  ⟨fun i j=>(R i j:Rat),⟨fun x y=>⟨R x y,rfl⟩,fun x y=>by rw [hs x y],Cong.refl _ _,fun m h=>by omega⟩,fun i j _ _ _ _=>by show (R i j:Rat)=1*(R i j:Rat);grind,rfl,rfl,rfl⟩
theorem Inv.sym {n k:Nat} {A:Nat→Nat→Rat} {R:Nat→Nat→Int} {last:Int} {b a:Nat} (h:Inv n A k R last b a) {i j:Nat} (h1:k≤i) (h2:i<n) (h3:k≤j) (h4:j<n):R i j=R j i:=by
  obtain ⟨C,hC,hR,_⟩:=h
  have:=hR i j h1 h2 h3 h4
  have e:=hR j i h3 h4 h1 h2
  rw [sch_sym hC.sym] at e
  rw [← e] at this
  exact Rat.intCast_inj.1 this
theorem Inv.add {n k x y:Nat} {A:Nat→Nat→Rat} {R R':Nat→Nat→Int} {last:Int} {b a:Nat} (h:Inv n A k R last b a) (hx:k≤x) (hx2:x<n) (hy:k≤y) (hy2:y<n) (hxy:x≠y)
    (hR':∀ i j,k≤i→i<n→k≤j→j<n→R' i j=R i j+(if i=x then R y j else 0)+(if j=x then R i y else 0)+(if i=x∧j=x then R y y else 0)):Inv n A k R' last b a:=by
  obtain ⟨C,hC,hR,hl,hb,ha⟩:=h
  have sq:∀ m,m<k→sch (addop x y C) m m m=sch C m m m:=fun m hm=>by
    rw [sch_add hx hy m (by omega)]
    unfold addop
    rw [if_neg (by omega),if_neg (by omega),if_neg (by omega)];grind
  have pk:prd (addop x y C) k=prd C k:=prd_congr sq
  refine ⟨addop x y C,⟨fun p q=>?_,fun p q=>?_,hC.cong.trans (cong_add C hx2 hy2 hxy),fun m hm=>by rw [sq m hm];exact hC.piv m hm⟩,fun i j h1 h2 h3 h4=>?_,by rw [pk];exact hl,?_,?_⟩
  · obtain ⟨z1,e1⟩:=hC.int p q
    obtain ⟨z2,e2⟩:=hC.int y q
    obtain ⟨z3,e3⟩:=hC.int p y
    obtain ⟨z4,e4⟩:=hC.int y y
    refine ⟨z1+(if p=x then z2 else 0)+(if q=x then z3 else 0)+(if p=x∧q=x then z4 else 0),?_⟩
    unfold addop
    rw [e1,e2,e3,e4,Rat.intCast_add,Rat.intCast_add,Rat.intCast_add]
    congr 1
    · congr 1
      · congr 1
        split<;>rfl
      · split<;>rfl
    · split<;>rfl
  · unfold addop
    rw [hC.sym p q,hC.sym y q,hC.sym p y]
    by_cases c1:p=x<;>by_cases c2:q=x<;>simp only [c1,c2,if_true,if_false,and_true,and_false,and_self]<;>grind
  · rw [hR' i j h1 h2 h3 h4,sch_add hx hy k (Nat.le_refl _),pk]
    unfold addop
    rw [Rat.intCast_add,Rat.intCast_add,Rat.intCast_add,hR i j h1 h2 h3 h4]
    have r1:=hR y j hy hy2 h3 h4
    have r2:=hR i y h1 h2 hy hy2
    have r3:=hR y y hy hy2 hy hy2
    by_cases c1:i=x<;>by_cases c2:j=x<;>simp only [c1,c2,if_true,if_false,and_true,and_false,and_self,Rat.intCast_zero]<;>(try simp only [c1] at r2)<;>(try simp only [c2] at r1)<;>grind
  · rw [cntN_congr sq];exact hb
  · rw [cntP_congr sq];exact ha
theorem Inv.swap {n k x y:Nat} {A:Nat→Nat→Rat} {R R':Nat→Nat→Int} {last:Int} {b a:Nat} (h:Inv n A k R last b a) (hx:k≤x) (hx2:x<n) (hy:k≤y) (hy2:y<n)
    (hR':∀ i j,k≤i→i<n→k≤j→j<n→R' i j=R (swp x y i) (swp x y j)):Inv n A k R' last b a:=by
  obtain ⟨C,hC,hR,hl,hb,ha⟩:=h
  have sq:∀ m,m<k→sch (fun p q=>C (swp x y p) (swp x y q)) m m m=sch C m m m:=fun m hm=>by
    rw [sch_swap hx hy m (by omega)]
    have:swp x y m=m:=by unfold swp;rw [if_neg (by omega),if_neg (by omega)]
    rw [this]
  have pk:prd (fun p q=>C (swp x y p) (swp x y q)) k=prd C k:=prd_congr sq
  have sk:∀ i,k≤i→k≤swp x y i:=fun i hi=>by
    unfold swp
    repeat' split
    all_goals omega
  refine ⟨fun p q=>C (swp x y p) (swp x y q),⟨fun p q=>hC.int _ _,fun p q=>hC.sym _ _,hC.cong.trans (cong_swap C hx2 hy2),fun m hm=>by rw [sq m hm];exact hC.piv m hm⟩,fun i j h1 h2 h3 h4=>?_,by rw [pk];exact hl,?_,?_⟩
  · rw [hR' i j h1 h2 h3 h4,sch_swap hx hy k (Nat.le_refl _),pk]
    exact hR _ _ (sk i h1) (swp_lt hx2 hy2 h2) (sk j h3) (swp_lt hx2 hy2 h4)
  · rw [cntN_congr sq];exact hb
  · rw [cntP_congr sq];exact ha
theorem Inv.last_ne {n k:Nat} {A:Nat→Nat→Rat} {R:Nat→Nat→Int} {last:Int} {b a:Nat} (h:Inv n A k R last b a):last≠0:=by
  obtain ⟨C,hC,_,hl,_⟩:=h
  intro h0
  rw [h0] at hl
  exact prd_ne hC.piv hl.symm
theorem Inv.step {n k:Nat} {A:Nat→Nat→Rat} {R:Nat→Nat→Int} {last:Int} {b a:Nat} (h:Inv n A k R last b a) (hk:k<n) (hp:R k k≠0) :
    (∀ i j,k<i→i<n→k<j→j<n→∃ z,R k k*R i j-R i k*R k j=last*z) ∧
    ∀ R':Nat→Nat→Int,(∀ i j,k<i→i<n→k<j→j<n→last*R' i j=R k k*R i j-R i k*R k j) →
      Inv n A (k+1) R' (R k k) (b+if (0<R k k↔0<last) then 0 else 1) (a+if (0<R k k↔0<last) then 1 else 0):=by
  have hl0:=h.last_ne
  obtain ⟨C,hC,hR,hl,hb,ha⟩:=h
  have hkk:=hR k k (Nat.le_refl _) hk (Nat.le_refl _) hk
  have hne:=prd_ne hC.piv
  have hs:sch C k k k≠0:=fun h0=>hp (by
    rw [h0] at hkk
    have:(R k k:Rat)=((0:Int):Rat):=by rw [hkk,Rat.intCast_zero];grind
    exact Rat.intCast_inj.1 this)
  have piv:∀ m,m<k+1→sch C m m m≠0:=fun m hm=>by
    by_cases c:m=k
    · subst c;exact hs
    · exact hC.piv m (by omega)
  have key:∀ i j,k<i→i<n→k<j→j<n→(R k k:Rat)*R i j-R i k*R k j=last*(prd C (k+1)*sch C (k+1) i j):=fun i j h1 h2 h3 h4=>by
    rw [hkk,hR i j (by omega) h2 (by omega) h4,hR i k (by omega) h2 (Nat.le_refl _) hk,hR k j (Nat.le_refl _) hk (by omega) h4,hl]
    show _=prd C k*((prd C k*sch C k k k)*(sch C k i j-sch C k i k*sch C k k j/sch C k k k))
    grind
  have lne:(last:Rat)≠0:=by rw [hl];exact hne
  refine ⟨fun i j h1 h2 h3 h4=>?_,fun R' hR'=>⟨C,⟨hC.int,hC.sym,hC.cong,piv⟩,fun i j h1 h2 h3 h4=>?_,hkk,?_,?_⟩⟩
  · obtain ⟨z,hz⟩:=sch_int hC.int (k:=k+1) (i:=i) (j:=j) (by omega) (by omega) piv
    refine ⟨z,?_⟩
    have e:=key i j h1 h2 h3 h4
    rw [hz,← Rat.intCast_mul,← Rat.intCast_mul,← Rat.intCast_mul,← Rat.intCast_sub] at e
    exact Rat.intCast_inj.1 e
  · have e:=key i j (by omega) h2 (by omega) h4
    have e2:=hR' i j (by omega) h2 (by omega) h4
    have e3:((last*R' i j:Int):Rat)=((R k k*R i j-R i k*R k j:Int):Rat):=by rw [e2]
    rw [Rat.intCast_mul,Rat.intCast_sub,Rat.intCast_mul,Rat.intCast_mul,e] at e3
    grind
  all_goals
    have sgn:(0<sch C k k k)↔(0<R k k↔0<last):=by
      have c1:(0<(R k k:Rat))↔0<R k k:=by rw [← Rat.intCast_zero];exact Rat.intCast_lt_intCast
      have c2:(0<(last:Rat))↔0<last:=by rw [← Rat.intCast_zero];exact Rat.intCast_lt_intCast
      rw [← c1,← c2,hkk,hl]
      constructor
      · intro h
        constructor
        · intro h2
          exact Classical.byContradiction fun h3=>by have:=Rat.mul_nonneg (a := - prd C k) (b:=sch C k k k) (by grind) (by grind);grind
        · intro h2;exact Rat.mul_pos h2 h
      · intro h
        refine Classical.byContradiction fun h3=>?_
        have h3:sch C k k k<0:=by grind
        rcases Rat.le_total (a:=0) (b:=prd C k) with h4 | h4
        · have h5:0<prd C k:=by grind
          have h6:=h.2 h5
          have:=Rat.mul_pos (a:=prd C k) (b := - sch C k k k) h5 (by grind)
          grind
        · have h5:prd C k<0:=by grind
          have h6:=Rat.mul_pos (a := - prd C k) (b := - sch C k k k) (by grind) (by grind)
          have h7:=h.1 (by grind)
          grind
  · rw [cntN_succ,hb]
    by_cases c:(0<R k k↔0<last)
    · rw [if_pos c,if_neg (by have:=sgn.2 c;grind)]
    · rw [if_neg c,if_pos (by have : ¬ 0<sch C k k k:=fun h=>c (sgn.1 h);grind)]
  · rw [cntP_succ,ha]
    by_cases c:(0<R k k↔0<last)
    · rw [if_pos c,if_pos (sgn.2 c)]
    · rw [if_neg c,if_neg (fun h=>c (sgn.1 h))]
theorem Inv.done {n k:Nat} {A:Nat→Nat→Rat} {R:Nat→Nat→Int} {last:Int} {b a:Nat} (h:Inv n A k R last b a) (hk:k≤n) (hz:∀ i j,k≤i→i<n→k≤j→j<n→R i j=0):Sig n A b a:=by
  obtain ⟨C,hC,hR,hl,hb,ha⟩:=h
  have z:∀ i j,k≤i→i<n→k≤j→j<n→sch C k i j=0:=fun i j h1 h2 h3 h4=>by
    have e:=hR i j h1 h2 h3 h4
    rw [hz i j h1 h2 h3 h4,Rat.intCast_zero] at e
    rcases Rat.mul_eq_zero.1 e.symm with h0 | h0
    · exact absurd h0 (prd_ne hC.piv)
    · exact h0
  obtain ⟨W,hW⟩:=ldl n C k hk hC.sym hC.piv z
  refine Sig.cong hC.cong ⟨W,_,hW,?_,?_⟩
  · rw [(cnt_more (fun m h1 h2=>by rw [if_neg (by omega)]) hk).2,cntN_congr (fun m hm=>by rw [if_pos hm])];exact hb
  · rw [(cnt_more (fun m h1 h2=>by rw [if_neg (by omega)]) hk).1,cntP_congr (fun m hm=>by rw [if_pos hm])];exact ha
end Go.Ine
/-
  The signs of L D L turned over; of rows and columns in another order. No condition.
-/
namespace Go.Ine
def Low (l:Nat→Nat→Rat):Prop:=(∀ i,l i i=1)∧∀ i k,i<k→l i k=0
theorem Low.ind {n:Nat} {l:Nat→Nat→Rat} (hl:Low l) (c:Nat→Rat) (h:∀ k,k<n→lc n c l k=0):∀ i,i<n→c i=0:=by
  have key:∀ m i,i<n→n≤i+m+1→c i=0:=by
    intro m
    induction m with
    | zero=>
      intro i hi hm
      have e:=h i hi
      unfold lc at e
      rw [sm_one hi fun k hk hne=>by rw [hl.2 k i (by omega)];grind,hl.1] at e
      grind
    | succ m ih=>
      intro i hi hm
      have e:=h i hi
      unfold lc at e
      rw [sm_one hi fun k hk hne=>by
        by_cases c1:k<i
        · rw [hl.2 k i c1];grind
        · rw [ih k hk (by omega)];grind,hl.1] at e
      grind
  intro i hi
  exact key n i hi (by omega)
end Go.Ine
