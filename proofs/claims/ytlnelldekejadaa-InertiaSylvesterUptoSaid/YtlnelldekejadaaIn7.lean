/-
  The law InertiaSylvester: the numbers drawn, the three matrices. No condition.
-/
import Derived.Test.YtlnelldekejadaaIn4
import Derived.Test.YtlnelldekejadaaDzA
import Derived.Test.YtlnelldekejadaaIne5
import Derived.Test.YtlnelldekejadaaLw0
set_option linter.all false
set_option maxRecDepth 100000
set_option maxHeartbeats 4000000
set_option exponentiation.threshold 140000
namespace Go.Eng
open Go Go.Ine
theorem part_t (l:List Int) (k:Nat) {m:Nat} (h1:1≤m) (hm:m≤1000):∃ v:Int,T_w16_part l (k:Int) (m:Int)=some v ∧ -(m:Int)≤v∧v≤m:=by
  unfold T_w16_part
  simp only [Option.bind_some]
  by_cases hl:l.length=0
  · have:l = []:=List.eq_nil_of_length_eq_zero hl
    subst this
    exact ⟨1,rfl,by omega,by omega⟩
  · have hz:nz ((l.length:Nat):Int)=some ():=if_pos (by omega)
    have e:((k:Int)).tmod ((l.length:Nat):Int)=((k%l.length:Nat):Int):=rfl
    have hlt:k%l.length<l.length:=Nat.mod_lt _ (by omega)
    have hne:(((l.length:Nat):Int)==0)=false:=by rw [beq_eq_false_iff_ne];omega
    rw [cond_f hne,hz,Option.bind_some,e,at_getD 0 hlt,Option.bind_some]
    have w:IntKind.i64.wrap ((IntKind.i64.wrap (2*(m:Int)))+1)=((2*m+1:Nat):Int):=by
      rw [wrI (n:=2*(m:Int)) (by omega) (by omega),wrI (by omega) (by omega)];omega
    obtain ⟨p,hp,hpk⟩:=pick_t (l.getD (k%l.length) 0) (n:=2*m+1) (by omega) (by omega)
    rw [w,hpk,Option.bind_some,wrI (by omega) (by omega)]
    exact ⟨(p:Int)-m,rfl,by omega,by omega⟩
def dG (l:List Int) (k:Nat):Int:=(T_w16_part l (k:Int) 1000).getD 0
def lG (l:List Int) (i k:Nat):Int:=if i=k then 1 else if i<k then 0 else (T_w16_part l ((i*(i-1)/2+k:Nat):Int) 3).getD 0
theorem dG_t (l:List Int) (k:Nat):T_w16_part l (k:Int) 1000=some (dG l k) ∧ -1000≤dG l k∧dG l k≤1000:=by
  obtain ⟨v,h,h1,h2⟩:=part_t l k (m:=1000) (by decide) (by decide)
  have h:T_w16_part l (k:Int) 1000=some v:=h
  unfold dG
  rw [h]
  exact ⟨rfl,h1,h2⟩
theorem lG_t (l:List Int) {i k:Nat} (hi:i<9) (hk:k<9):T_w16_lower l (i:Int) (k:Int)=some (lG l i k) ∧ -3≤lG l i k∧lG l i k≤3:=by
  unfold T_w16_lower lG
  by_cases h1:i=k
  · rw [cond_t (by simp;omega),if_pos h1];exact ⟨rfl,by decide,by decide⟩
  · rw [cond_f (by simp;omega),if_neg h1]
    by_cases h2:i<k
    · rw [cond_t (by simp;omega),if_pos h2];exact ⟨rfl,by decide,by decide⟩
    · rw [cond_f (by simp;omega),if_neg h2]
      have e:IntKind.i64.wrap ((IntKind.i64.wrap ((IntKind.i64.wrap ((i:Int)*(IntKind.i64.wrap ((i:Int)-1)))).tdiv 2))+(k:Int))=((i*(i-1)/2+k:Nat):Int):=by
        have a1:IntKind.i64.wrap ((i:Int)-1)=((i-1:Nat):Int):=by rw [wrI (by omega) (by omega)];omega
        have hb:i*(i-1)≤9*9:=Nat.mul_le_mul (by omega) (by omega)
        rw [a1,wrMul (by omega)]
        have a2:(((i*(i-1):Nat):Int)).tdiv 2=((i*(i-1)/2:Nat):Int):=rfl
        have:i*(i-1)/2≤i*(i-1):=Nat.div_le_self _ _
        rw [a2,wrN (by omega),wrAdd (by omega)]
      obtain ⟨v,h,g1,g2⟩:=part_t l (i*(i-1)/2+k) (m:=3) (by decide) (by decide)
      have h:T_w16_part l ((i*(i-1)/2+k:Nat):Int) 3=some v:=h
      rw [e,h]
      exact ⟨rfl,g1,g2⟩
def smI:Nat→(Nat→Int)→Int
  | 0,_=>0
  | n+1,f=>smI n f+f n
theorem smI_cast (f:Nat→Int):∀ n,((smI n f:Int):Rat)=sm n fun k=>(f k:Rat)
  | 0=>rfl
  | n+1=>by
    unfold smI sm
    rw [Rat.intCast_add,smI_cast f n]
theorem smI_bd {f:Nat→Int} {b:Int}:∀ {n:Nat},(∀ k,k<n → -b≤f k∧f k≤b) → -(n*b)≤smI n f∧smI n f≤n*b
  | 0,_=>by unfold smI;simp
  | n+1,h=>by
    have ih:=smI_bd (n:=n) fun k hk=>h k (by omega)
    have:=h n (by omega)
    unfold smI
    have e:((n+1:Nat):Int)*b=n*b+b:=by push_cast;rw [Int.add_mul,Int.one_mul]
    rw [e];omega
theorem mul_bd {a b x y:Int} (ha : -a≤x∧x≤a) (hb : -b≤y∧y≤b) : -(a*b)≤x*y∧x*y≤a*b:=by
  have h:(x*y).natAbs≤(a*b).natAbs:=by
    rw [Int.natAbs_mul,Int.natAbs_mul]
    exact Nat.mul_le_mul (by omega) (by omega)
  have:0≤a*b:=Int.mul_nonneg (by omega) (by omega)
  omega
section
variable (n:Nat) (l1 l2:List Int)
def aG (i j:Nat):Int:=smI n fun k=>lG l1 i k*dG l2 k*lG l1 j k
variable {n l1 l2}
theorem lG_bd {i k:Nat} (hi:i<9) (hk:k<9) : -3≤lG l1 i k∧lG l1 i k≤3:=(lG_t l1 hi hk).2
theorem term_bd {i j k:Nat} (hi:i<9) (hj:j<9) (hk:k<9):(-3000≤lG l1 i k*dG l2 k∧lG l1 i k*dG l2 k≤3000) ∧ -9000≤lG l1 i k*dG l2 k*lG l1 j k∧lG l1 i k*dG l2 k*lG l1 j k≤9000:=by
  have a:=mul_bd (a:=3) (b:=1000) (lG_bd (l1:=l1) hi hk) (dG_t l2 k).2
  exact ⟨a,mul_bd (a:=3000) (b:=3) a (lG_bd (l1:=l1) hj hk)⟩
theorem pre_bd {i j m:Nat} (hi:i<9) (hj:j<9) (hm:m<9) : -72000≤smI m (fun k=>lG l1 i k*dG l2 k*lG l1 j k)∧smI m (fun k=>lG l1 i k*dG l2 k*lG l1 j k)≤72000:=by
  have:=smI_bd (b:=9000) (n:=m) fun k hk=>(term_bd (l1:=l1) (l2:=l2) hi hj (show k<9 by omega)).2
  omega
theorem aG_sym (i j:Nat):aG n l1 l2 i j=aG n l1 l2 j i:=by
  unfold aG
  congr 1
  funext k
  rw [Int.mul_comm (lG l1 i k*dG l2 k),Int.mul_comm (lG l1 i k),← Int.mul_assoc]
theorem sylsum_t {i j:Nat} (hn:n<9) (hi:i<n) (hj:j<n):iter (T_w16_InertiaSylvester_b38 (n:Int) l1 (i:Int) l2 (j:Int)) FU (0,0)=some (aG n l1 l2 i j):=by
  exact iter_nat (b:=T_w16_InertiaSylvester_b38 (n:Int) l1 (i:Int) l2 (j:Int)) (fun k=>(smI k (fun k=>lG l1 i k*dG l2 k*lG l1 j k),((k:Nat):Int))) n (by rw [FU_eq];omega) (fun k hk=>by
    unfold T_w16_InertiaSylvester_b38
    dsimp only
    have b1:=term_bd (l1:=l1) (l2:=l2) (show i<9 by omega) (show j<9 by omega) (show k<9 by omega)
    have b2:=pre_bd (l1:=l1) (l2:=l2) (show i<9 by omega) (show j<9 by omega) (show k<9 by omega)
    rw [cond_t (by simp;omega),(lG_t l1 (show i<9 by omega) (show k<9 by omega)).1,Option.bind_some,(dG_t l2 k).1,Option.bind_some,(lG_t l1 (show j<9 by omega) (show k<9 by omega)).1,Option.bind_some,wrU (by omega),
      wrI (n:=lG l1 i k*dG l2 k) (by omega) (by omega),wrI (n:=lG l1 i k*dG l2 k*lG l1 j k) (by omega) (by omega),wrI (by omega) (by omega)]
    rfl) (by
    unfold T_w16_InertiaSylvester_b38
    dsimp only
    rw [cond_f (by simp)];rfl)
abbrev DzD (k:Nat) (d:Dy) (z:Int):Prop:=Dz d.1 d.2.1 d.2.2 k z
abbrev nlD:Dy:=(false,[],0)
theorem place_t {z e:Int} {kk:Nat} (hz : -100000≤z∧z≤100000) (he : -60≤e∧e≤60) (hk:(65536:Int)+e=kk) :
    ∃ a x y:Dy,T_dyad_Int z=some (a.1,a.2.1,a.2.2)∧T_dyad_Scale a.1 a.2.1 a.2.2 e=some (x.1,x.2.1,x.2.2,0)∧T_dyad_Neg x.1 x.2.1 x.2.2=some (y.1,y.2.1,y.2.2,0)∧DzD kk x z∧DzD kk y (-z):=by
  obtain ⟨s,l,f,h1,h2⟩:=int_dz (n:=z) (by omega) (by omega)
  have hz2:z.natAbs<2^17:=by
    have:(2:Nat)^17=131072:=by decide
    omega
  obtain ⟨t,m,g,h3,h4⟩:=scale_dz (j:=kk) (q:=e) h2 (Nat.lt_of_lt_of_le hz2 (Nat.pow_le_pow_right (by decide) (by omega))) (by omega) (by omega) (by omega) (by omega) (by omega)
  obtain ⟨u,h5,h6⟩:=neg_dz h4
  exact ⟨(s,l,f),(t,m,g),(u,m,g),h1,h3,h5,h4,h6⟩
structure Drawn (n:Nat) (l1 l2:List Int) (kk i j:Nat) (t m mi:List Dy):Prop where
  ml:m.length=i*n+j
  mil:mi.length=i*n+j
  tl:t.length=n*n
  tg:∀ d∈t,GdD d
  m:∀ p q,p<n→q<n→(p<i∨(p=i∧q<j))→DzD kk (m.getD (p*n+q) nlD) (aG n l1 l2 p q)
  mi:∀ p q,p<n→q<n→(p<i∨(p=i∧q<j))→DzD kk (mi.getD (p*n+q) nlD) (-aG n l1 l2 p q)
  t:∀ p q,p<n→q<n→(p<i∨(p=i∧q<j))→DzD kk (t.getD ((n-1-p)*n+(n-1-q)) nlD) (aG n l1 l2 p q)
theorem getD_app {l:List Dy} {x:Dy} {k:Nat}:(l ++ [x]).getD k nlD=if k<l.length then l.getD k nlD else if k=l.length then x else nlD:=by
  rw [List.getD_eq_getElem?_getD,List.getD_eq_getElem?_getD]
  by_cases h:k<l.length
  · rw [if_pos h,List.getElem?_append_left h]
  · rw [if_neg h,List.getElem?_append_right (by omega)]
    by_cases h2:k=l.length
    · rw [if_pos h2,h2,Nat.sub_self];rfl
    · rw [if_neg h2,List.getElem?_eq_none (by simp;omega)];rfl
theorem getD_set {l:List Dy} {x:Dy} {k p:Nat} (hp:p<l.length):(l.set p x).getD k nlD=if k=p then x else l.getD k nlD:=by
  rw [List.getD_eq_getElem?_getD,List.getD_eq_getElem?_getD]
  by_cases h:k=p
  · subst h;rw [if_pos rfl,List.getElem?_set_self hp];rfl
  · rw [if_neg h,List.getElem?_set_ne (by omega)]
theorem idx_one' {n i j p q:Nat} (hj:j<n) (hq:q<n) (h:i*n+j=p*n+q):i=p∧j=q:=by
  have hi:i=p:=by
    have h1:(i*n+j)/n=i:=by rw [Nat.mul_comm,Nat.mul_add_div (by omega),Nat.div_eq_of_lt hj];omega
    have h2:(p*n+q)/n=p:=by rw [Nat.mul_comm,Nat.mul_add_div (by omega),Nat.div_eq_of_lt hq];omega
    rw [← h1,h,h2]
  subst hi
  exact ⟨rfl,by omega⟩
theorem idx_lt' {n i j p q:Nat} (hj:j<n) (hq:q<n) (h:p<i∨(p=i∧q<j)):p*n+q<i*n+j:=by
  rcases h with h | ⟨rfl,h⟩
  · have:(p+1)*n≤i*n:=Nat.mul_le_mul_right n h
    rw [Nat.add_mul] at this;omega
  · omega
theorem Drawn.step {kk i j:Nat} {t m mi:List Dy} {x y:Dy} (h:Drawn n l1 l2 kk i j t m mi) (hi:i<n) (hj:j<n) (hx:DzD kk x (aG n l1 l2 i j)) (hy:DzD kk y (-aG n l1 l2 i j)) :
    Drawn n l1 l2 kk i (j+1) (t.set ((n-1-i)*n+(n-1-j)) x) (m ++ [x]) (mi ++ [y]):=by
  have hti:(n-1-i)*n+(n-1-j)<t.length:=by rw [h.tl];exact idxL (by omega) (by omega)
  refine ⟨by simp [h.ml];omega,by simp [h.mil];omega,by rw [List.length_set];exact h.tl,fun d hd=>?_,fun p q hp hq hpq=>?_,fun p q hp hq hpq=>?_,fun p q hp hq hpq=>?_⟩
  · rcases List.mem_or_eq_of_mem_set hd with c | c
    · exact h.tg d c
    · rw [c];exact hx.1
  · rw [getD_app,h.ml]
    by_cases c:p<i∨(p=i∧q<j)
    · rw [if_pos (idx_lt' hj hq c)];exact h.m p q hp hq c
    · obtain ⟨rfl,rfl⟩:p=i∧q=j:=by omega
      rw [if_neg (by omega),if_pos rfl];exact hx
  · rw [getD_app,h.mil]
    by_cases c:p<i∨(p=i∧q<j)
    · rw [if_pos (idx_lt' hj hq c)];exact h.mi p q hp hq c
    · obtain ⟨rfl,rfl⟩:p=i∧q=j:=by omega
      rw [if_neg (by omega),if_pos rfl];exact hy
  · rw [getD_set hti]
    by_cases c:p<i∨(p=i∧q<j)
    · rw [if_neg (fun g=>by have:=idx_one' (by omega) (by omega) g;omega)];exact h.t p q hp hq c
    · obtain ⟨rfl,rfl⟩:p=i∧q=j:=by omega
      rw [if_pos rfl];exact hx
theorem Drawn.row {kk i:Nat} {t m mi:List Dy} (h:Drawn n l1 l2 kk i n t m mi):Drawn n l1 l2 kk (i+1) 0 t m mi:=
  ⟨by rw [h.ml,Nat.add_mul];omega,by rw [h.mil,Nat.add_mul];omega,h.tl,h.tg,fun p q hp hq c=>h.m p q hp hq (by omega),fun p q hp hq c=>h.mi p q hp hq (by omega),fun p q hp hq c=>h.t p q hp hq (by omega)⟩
theorem row_t {kk i:Nat} {e:Int} {t m mi:List Dy} (hn:n<9) (he:0≤e∧e≤120) (hk:(65536:Int)+(e-60)=kk) (hi:i<n) (h:Drawn n l1 l2 kk i 0 t m mi) :
    ∃ t' m' mi',iter (T_w16_InertiaSylvester_b36 (n:Int) l1 (i:Int) l2 e) FU (0,t,mi,m)=some (.inl (t',mi',m'))∧Drawn n l1 l2 kk (i+1) 0 t' m' mi':=by
  have hnn:n*n≤8*8:=Nat.mul_le_mul (by omega) (by omega)
  obtain ⟨o,ho,t',m',mi',rfl,hd⟩:=iter_ex (b:=T_w16_InertiaSylvester_b36 (n:Int) l1 (i:Int) l2 e) (fun j (s:Int×List Dy×List Dy×List Dy)=>s.1=(j:Int)∧j≤n∧Drawn n l1 l2 kk i j s.2.1 s.2.2.2 s.2.2.1)
    (fun (o:(List Dy×List Dy×List Dy)⊕Bool)=>∃ t' m' mi',o = .inl (t',mi',m')∧Drawn n l1 l2 kk i n t' m' mi') n (by rw [FU_eq];omega) (s0:=(0,t,mi,m)) (fun j s hj hs=>by
      obtain ⟨a,t,mi,m⟩:=s
      obtain ⟨h1,_,h2⟩:=hs
      dsimp only at h1 h2
      subst h1
      unfold T_w16_InertiaSylvester_b36
      dsimp only
      by_cases hj2:j<n
      · have hb:=pre_bd (l1:=l1) (l2:=l2) (show i<9 by omega) (show j<9 by omega) hn
        obtain ⟨a,x,y,p1,p2,p3,p4,p5⟩:=place_t (z:=aG n l1 l2 i j) (e:=e-60) (kk:=kk) (by unfold aG;omega) (by omega) hk
        have hin:i*n+j<n*n:=idxL hi hj2
        have hin2:(n-1-i)*n+(n-1-j)<n*n:=idxL (by omega) (by omega)
        have eix:IntKind.i64.wrap ((IntKind.i64.wrap ((IntKind.i64.wrap ((IntKind.i64.wrap ((IntKind.i64.wrap ((IntKind.i64.wrap ((n:Int)-1))-(i:Int)))*(n:Int)))+(n:Int)))-1))-(j:Int))=(((n-1-i)*n+(n-1-j):Nat):Int):=by
          rw [wrI (n:=(n:Int)-1) (by omega) (by omega),wrI (n:=(n:Int)-1-(i:Int)) (by omega) (by omega),show (n:Int)-1-(i:Int)=((n-1-i:Nat):Int) by omega,wrMul (by omega),wrAdd (by omega)]
          generalize (n-1-i)*n=w at *
          rw [wrI (n:=((w+n:Nat):Int)-1) (by omega) (by omega),wrI (by omega) (by omega)]
          omega
        rw [cond_t (by simp;omega),sylsum_t hn hi hj2,Option.bind_some,p1,Option.bind_some]
        dsimp only
        rw [wrI (n:=e-60) (by omega) (by omega),p2,Option.bind_some]
        dsimp only
        rw [p3,Option.bind_some]
        dsimp only
        rw [cond_t (by decide),Option.bind_some,cond_f (by decide),Option.bind_some,app_le (by simp [h2.ml];omega),Option.bind_some,Option.bind_some,app_le (by simp [h2.mil];omega),Option.bind_some,eix,at_nat (by rw [h2.tl];omega),Option.bind_some,Option.bind_some,Int.toNat_natCast,wrU (by omega)]
        exact .inr ⟨hj2,_,rfl,rfl,hj2,h2.step hi hj2 p4 p5⟩
      · rw [cond_f (by simp;omega)]
        obtain rfl:j=n:=by omega
        exact .inl ⟨_,rfl,t,m,mi,rfl,h2⟩) ⟨rfl,Nat.zero_le _,h⟩
  exact ⟨t',m',mi',ho,hd.row⟩
end
end Go.Eng
/-
  The law InertiaSylvester is true. No condition.
-/
set_option maxRecDepth 100000
set_option maxHeartbeats 4000000
set_option exponentiation.threshold 140000
namespace Go.Eng
open Go Go.Ine
section
variable {n:Nat} {l1 l2:List Int}
def dR (l2:List Int) (k:Nat):Rat:=(dG l2 k:Rat)
theorem dR_pos (k:Nat):0<dR l2 k↔0<dG l2 k:=Rat.intCast_pos
theorem dR_neg (k:Nat):dR l2 k<0↔dG l2 k<0:=by
  have:=Rat.intCast_lt_intCast (a:=dG l2 k) (b:=0)
  exact this
theorem cnt_le (i:Nat) (d:Nat→Rat):cntN i d≤i∧cntP i d≤i:=by
  have a:=List.length_filter_le (fun k=>decide (d k<0)) (List.range i)
  have b:=List.length_filter_le (fun k=>decide (0<d k)) (List.range i)
  rw [List.length_range] at a b
  exact ⟨a,b⟩
theorem all_t {kk:Nat} {e:Int} (hn:n<9) (he:0≤e∧e≤120) (hk:(65536:Int)+(e-60)=kk) :
    ∃ at_:Int,∃ t m mi:List Dy,iter (T_w16_InertiaSylvester_b27 (n:Int) l2 l1 e) FU (0,0,0,0,List.replicate (n*n) nlD,[],[])=some (.inl (((cntN n (dR l2):Nat):Int),at_,((cntP n (dR l2):Nat):Int),t,mi,m)) ∧
      at_+cntN n (dR l2)+cntP n (dR l2)=n∧Drawn n l1 l2 kk n 0 t m mi:=by
  obtain ⟨o,ho,at_,t,m,mi,rfl,h1,h2⟩:=iter_ex (b:=T_w16_InertiaSylvester_b27 (n:Int) l2 l1 e)
    (fun i (s:Int×Int×Int×Int×List Dy×List Dy×List Dy)=>s.1=(i:Int)∧i≤n∧s.2.1=((cntN i (dR l2):Nat):Int)∧s.2.2.2.1=((cntP i (dR l2):Nat):Int)∧s.2.2.1+cntN i (dR l2)+cntP i (dR l2)=i∧Drawn n l1 l2 kk i 0 s.2.2.2.2.1 s.2.2.2.2.2.2 s.2.2.2.2.2.1)
    (fun (o:(Int×Int×Int×List Dy×List Dy×List Dy)⊕Bool)=>∃ at_:Int,∃ t m mi:List Dy,o = .inl (((cntN n (dR l2):Nat):Int),at_,((cntP n (dR l2):Nat):Int),t,mi,m)∧at_+cntN n (dR l2)+cntP n (dR l2)=n∧Drawn n l1 l2 kk n 0 t m mi) n (by rw [FU_eq];omega)
    (s0:=(0,0,0,0,List.replicate (n*n) nlD,[],[])) (fun i s hi hs=>by
      obtain ⟨a,be,az,ab,t,mi,m⟩:=s
      obtain ⟨g1,_,g2,g3,g4,g5⟩:=hs
      dsimp only at g1 g2 g3 g4 g5
      subst g1 g2 g3
      unfold T_w16_InertiaSylvester_b27
      dsimp only
      by_cases hi2:i<n
      · rw [cond_t (by simp;omega),(dG_t l2 i).1,Option.bind_some]
        obtain ⟨t',m',mi',r1,r2⟩:=row_t hn he hk hi2 g5
        have cP:=cntP_succ i (dR l2)
        have cN:=cntN_succ i (dR l2)
        have bN:cntN i (dR l2)+cntP i (dR l2)+az=i:=by omega
        have key:∃ az':Int,(cond (decide (dG l2 i<0)) (some ((IntKind.i64.wrap (((cntN i (dR l2):Nat):Int)+1)),az,((cntP i (dR l2):Nat):Int)))
            ((cond (decide (dG l2 i>0)) (some (az,(IntKind.i64.wrap (((cntP i (dR l2):Nat):Int)+1)))) (some ((IntKind.i64.wrap (az+1)),((cntP i (dR l2):Nat):Int)))).bind fun o=>match o with
              | (t24,t25)=>some (((cntN i (dR l2):Nat):Int),t24,t25)))=some (((cntN (i+1) (dR l2):Nat):Int),az',((cntP (i+1) (dR l2):Nat):Int))∧az'+cntN (i+1) (dR l2)+cntP (i+1) (dR l2)=(i+1:Nat):=by
          have n1:=cnt_le i (dR l2)
          by_cases c1:dG l2 i<0
          · have d1:dR l2 i<0:=(dR_neg i).2 c1
            have d2 : ¬ 0<dR l2 i:=fun h=>by have:=(dR_pos i).1 h;omega
            rw [if_pos d1] at cN
            rw [if_neg d2] at cP
            rw [decide_eq_true c1,cT,cN,cP]
            exact ⟨az,by rw [wrU (by omega)];rfl,by omega⟩
          · have d1 : ¬ dR l2 i<0:=fun h=>c1 ((dR_neg i).1 h)
            rw [if_neg d1] at cN
            by_cases c2:dG l2 i>0
            · have d2:0<dR l2 i:=(dR_pos i).2 c2
              rw [if_pos d2] at cP
              rw [decide_eq_false c1,cF,decide_eq_true c2,cT,cN,cP]
              exact ⟨az,by rw [wrU (by omega)];rfl,by omega⟩
            · have d2 : ¬ 0<dR l2 i:=fun h=>c2 ((dR_pos i).1 h)
              rw [if_neg d2] at cP
              rw [decide_eq_false c1,cF,decide_eq_false c2,cF,cN,cP]
              exact ⟨az+1,by rw [wrI (by omega) (by omega)];rfl,by omega⟩
        obtain ⟨az',k1,k2⟩:=key
        rw [k1,Option.bind_some]
        dsimp only
        rw [Option.bind_some]
        dsimp only
        rw [r1,Option.bind_some]
        dsimp only
        rw [wrU (by omega)]
        exact .inr ⟨hi2,_,rfl,rfl,hi2,rfl,rfl,k2,r2⟩
      · rw [cond_f (by simp;omega)]
        obtain rfl:i=n:=by omega
        exact .inl ⟨_,rfl,az,t,m,mi,rfl,g4,g5⟩) ⟨rfl,Nat.zero_le _,rfl,rfl,rfl,by simp,by simp,by simp,fun d hd=>by rw [List.eq_of_mem_replicate hd];exact .inl ⟨rfl,rfl,rfl⟩,fun p q _ _ c=>by omega,fun p q _ _ c=>by omega,fun p q _ _ c=>by omega⟩
  exact ⟨at_,t,m,mi,ho,h1,h2⟩
theorem lG_low (l1:List Int):Low (fun i k=>((lG l1 i k:Int):Rat)):=by
  refine ⟨fun i=>?_,fun i k h=>?_⟩
  · show ((lG l1 i i:Int):Rat)=1
    unfold lG;rw [if_pos rfl];rfl
  · show ((lG l1 i k:Int):Rat)=0
    unfold lG;rw [if_neg (by omega),if_pos h];rfl
theorem aG_cast (i j:Nat):((aG n l1 l2 i j:Int):Rat)=sm n fun k=>((lG l1 i k:Int):Rat)*dR l2 k*((lG l1 j k:Int):Rat):=by
  unfold aG
  rw [smI_cast]
  refine sm_congr fun k _=>?_
  rw [Rat.intCast_mul,Rat.intCast_mul];rfl
theorem Sig.unscale {A:Nat→Nat→Rat} {c:Rat} {b a:Nat} (hc:0<c) (h:Sig n (fun i j=>A i j*c) b a):Sig n A b a:=by
  have hi:(0:Rat)<c⁻¹:=Rat.inv_pos.2 hc
  refine (h.scale hi).ext fun i j _ _=>?_
  show A i j=c⁻¹*(A i j*c)
  rw [Rat.mul_comm (A i j),← Rat.mul_assoc,Rat.inv_mul_cancel _ (by grind),Rat.one_mul]
theorem small_ok {A:Nat→Nat→Int} {a:Nat→Nat→Int} {kk:Nat} {V:Mt} {low:Int} {ok:Bool} (hn:n≤8) (h:ScOk n A V low ok) (hA:∀ i j,i<n→j<n→A i j=a i j*((2^kk:Nat):Int)) (hb:∀ i j,i<n→j<n→(a i j).natAbs<2^17):ok=true:=by
  rcases h.2 with ⟨_,h,_⟩ | ⟨t,M,_,_,_,e1,⟨i,j,hi,hj,ho⟩,e3,⟨p,q,hp,hq,hM⟩,h⟩
  · exact h
  · have ht:kk≤t:=odd_t ((e1 i j hi hj).symm.trans (hA i j hi hj)) ho
    have hv:a p q=ent V p q*((2^(t-kk):Nat):Int):=by
      have:=(hA p q hp hq).symm.trans (e1 p q hp hq)
      rw [show t=(t-kk)+kk by omega,Nat.pow_add,Int.natCast_mul,← Int.mul_assoc] at this
      exact pow_cancel this
    have h17:blN (ent V p q).natAbs≤17:=by
      refine blN_le.2 (Nat.lt_of_le_of_lt ?_ (hb p q hp hq))
      rw [hv,Int.natAbs_mul,Int.natAbs_natCast]
      exact Nat.le_mul_of_pos_right _ (Nat.two_pow_pos _)
    rw [h,decide_eq_true_iff]
    have:M*n≤17*8:=Nat.mul_le_mul (by omega) hn
    omega
theorem of_list {kk:Nat} {m:List Dy} {f:Nat→Nat→Int} (hn:n≤8) (hl:m.length=n*n) (hd:∀ p q,p<n→q<n→DzD kk (m.getD (p*n+q) nlD) (f p q)) (hs:∀ p q,f p q=f q p) (hb:∀ i j,i<n→j<n→(f i j).natAbs<2^17) :
    SymD n m∧∃ B T Ab:Nat,B+T+Ab=n∧Sig n (fun i j=>(f i j:Rat)) B Ab∧T_inertia_Signs (n:Int) (n:Int) m=some ((B:Int),(T:Int),(Ab:Int),0)∧T_inertia_Below (n:Int) (n:Int) m false [] 0=some ((B:Int),0):=by
  have hS:SymD n m:=⟨by omega,hl,fun d hd'=>by
    obtain ⟨k,hk,rfl⟩:=List.mem_iff_getElem.1 hd'
    have h0:0<n:=by
      rcases Nat.eq_zero_or_pos n with h | h
      · rw [hl,h] at hk;omega
      · exact h
    have e:k=k/n*n+k%n:=by have:=Nat.div_add_mod k n;rw [Nat.mul_comm] at this;omega
    have h1:k/n<n:=Nat.div_lt_of_lt_mul (by omega)
    have h2:k%n<n:=Nat.mod_lt _ h0
    have:=(hd _ _ h1 h2).1
    rw [← e,List.getD_eq_getElem?_getD,List.getElem?_eq_getElem hk] at this
    exact this,fun i j hi hj=>by
    have a:=(hd i j hi hj).2
    have b:=(hd j i hj hi).2
    show nD _ _ _=nD _ _ _
    rw [a,b,hs i j]⟩
  have hA:∀ i j,i<n→j<n→aD n m (false,[],0) i j=f i j*((2^kk:Nat):Int):=fun i j hi hj=>by
    have a:=(hd i j hi hj).2
    unfold aD
    rw [nDD_nil]
    have:nDD (m.getD (i*n+j) (false,[],0))=f i j*((2^kk:Nat):Int):=a
    rw [this]
    split<;>simp
  have hc:(0:Rat)<(((2^kk:Nat):Int):Rat):=by
    have:=Nat.two_pow_pos kk
    have:(0:Int)<((2^kk:Nat):Int):=by omega
    exact Rat.intCast_pos.2 this
  refine ⟨hS,?_⟩
  obtain ⟨V,low,ok,h1,h2,h3⟩:=signs_t hS hn
  obtain ⟨V',low',ok',h1',h2',h3'⟩:=below_t (x:=(false,[],0)) hS (.inl ⟨rfl,rfl,rfl⟩) hn
  obtain rfl:=small_ok hn h2 hA hb
  obtain rfl:=small_ok hn h2' hA hb
  rcases h3 with ⟨h,_⟩ | ⟨_,B,T,Ab,g1,g2,g3,g4⟩
  · cases h
  rcases h3' with ⟨h,_⟩ | ⟨_,B',T',Ab',g1',g2',g3',g4'⟩
  · cases h
  have hB:=(g3'.law g3).1
  subst hB
  refine ⟨B',T,Ab,g2,?_,g4,g4'⟩
  refine Sig.unscale hc (g3.ext fun i j hi hj=>?_)
  rw [hA i j hi hj,Rat.intCast_mul]
theorem sylv16 {q0 q3:Int}:T_w16_InertiaSylvester q0 l1 l2 q3=some true:=by
  unfold T_w16_InertiaSylvester
  obtain ⟨n,hn,h1⟩:=pick_t q0 (n:=9) (by decide) (by decide)
  obtain ⟨e,he,h2⟩:=pick_t q3 (n:=121) (by decide) (by decide)
  have h1:T_k_Pick q0 9=some (n:Int):=h1
  have h2:T_k_Pick q3 121=some (e:Int):=h2
  have hnn:n*n≤8*8:=Nat.mul_le_mul (by omega) (by omega)
  rw [h1,Option.bind_some,h2,Option.bind_some,wrMul (by omega),mk_nat (by omega),Option.bind_some]
  obtain ⟨at_,t,m,mi,r1,r2,r3⟩:=all_t (n:=n) (l1:=l1) (l2:=l2) (e:=(e:Int)) (kk:=65476+e) (by omega) (by omega) (by omega)
  have r1:iter (T_w16_InertiaSylvester_b27 (n:Int) l2 l1 (e:Int)) FU (0,0,0,0,List.replicate (n*n) ((false,[],0):Dy),[],[])=_:=r1
  rw [r1,Option.bind_some]
  dsimp only
  have hb:∀ i j,i<n→j<n→(aG n l1 l2 i j).natAbs<2^17:=fun i j hi hj=>by
    have:=pre_bd (l1:=l1) (l2:=l2) (show i<9 by omega) (show j<9 by omega) (show n<9 by omega)
    have e:(2:Nat)^17=131072:=by decide
    unfold aG
    omega
  obtain ⟨_,B,T,Ab,a1,a2,a3,a4⟩:=of_list (n:=n) (m:=m) (f:=aG n l1 l2) (by omega) (by rw [r3.ml];rfl) (fun p q hp hq=>r3.m p q hp hq (.inl hp)) aG_sym hb
  obtain ⟨_,B',T',Ab',b1,b2,b3,_⟩:=of_list (n:=n) (m:=mi) (f:=fun i j => -aG n l1 l2 i j) (by omega) (by rw [r3.mil];rfl) (fun p q hp hq=>r3.mi p q hp hq (.inl hp)) (fun p q=>by rw [aG_sym]) (fun i j hi hj=>by rw [Int.natAbs_neg];exact hb i j hi hj)
  obtain ⟨_,B2,T2,Ab2,c1,c2,c3,_⟩:=of_list (n:=n) (m:=t) (f:=fun i j=>aG n l1 l2 (n-1-i) (n-1-j)) (by omega) r3.tl (fun p q hp hq=>by
    have:=r3.t (n-1-p) (n-1-q) (by omega) (by omega) (.inl (by omega))
    rw [show n-1-(n-1-p)=p by omega,show n-1-(n-1-q)=q by omega] at this
    exact this) (fun p q=>aG_sym _ _) (fun i j hi hj=>hb _ _ (by omega) (by omega))
  have hA:∀ i j,i<n→j<n→((aG n l1 l2 i j:Int):Rat)=sm n fun k=>((lG l1 i k:Int):Rat)*dR l2 k*((lG l1 j k:Int):Rat):=fun i j _ _=>aG_cast i j
  obtain ⟨s1,s2⟩:=ldl_sig (lG_low l1) hA a2
  obtain ⟨u1,u2⟩:=turn_sig a2 c2
  have hneg:Sig n (fun i j=>((aG n l1 l2 i j:Int):Rat)) Ab' B':=b2.neg.ext fun i j _ _=>by
    show ((aG n l1 l2 i j:Int):Rat) = - ((-aG n l1 l2 i j:Int):Rat)
    rw [Rat.intCast_neg,Rat.neg_neg]
  obtain ⟨v1,v2⟩:=hneg.law a2
  rw [a3,Option.bind_some]
  dsimp only
  rw [b3,Option.bind_some]
  dsimp only
  rw [c3,Option.bind_some]
  dsimp only
  have hi0:T_dyad_Int 0=some (false,[],0):=by decide +kernel
  rw [hi0,Option.bind_some]
  dsimp only
  rw [a4,Option.bind_some]
  dsimp only
  have t1:(T:Int)=at_:=by omega
  have t2:(T':Int)=at_:=by omega
  have t3:(T2:Int)=at_:=by omega
  subst s1 s2 u1 u2 v1 v2
  rw [cond_t (by decide),cond_t (by simp [t1]),cond_t (by simp [t3]),cond_t (by simp),cond_t (by simp [t2]),awake16];rfl
end
section
variable {N:Nums} {P:Program} (H:AllOk N P)
include H
theorem sylv16_f {q p:Int} {sa sb:Option Addr} {na ma nb mb:Nat} {la lb:List Int} {w:World} (hA:rdA (la.map (Value.int .i64)) sa na ma w) (hB:rdA (lb.map (Value.int .i64)) sb nb mb w) :
    CallsX P N.f_w16_InertiaSylvester #[.int .i64 q,.slice sa na ma,.slice sb nb mb,.int .i64 p] w fun v w'=>v = .bool true∧∃ M,St w w' M:=by
  have hS:=((Ho.start w).arg own_nil hB).arg (own_cons rfl own_nil) hA
  exact wk_w16_InertiaSylvester H hS (Ent.rd mp0) (Ent.rd mp1) sylv16 fun w1 h=>⟨rfl,h.some_old⟩
end
end Go.Eng
