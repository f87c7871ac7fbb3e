/-
  inertia's rows: signs tells the signs. No condition.
-/
import Derived.Test.YtlnelldekejadaaGreatMx24
set_option linter.all false
set_option maxRecDepth 100000
set_option maxHeartbeats 4000000
open Option renaming bind_some→AA
open Int renaming mul_tdiv_cancel_left→AB,lt_trichotomy→AD
open Nat renaming le_refl→AC
namespace Go.Eng
open Go Go.Ine
theorem Er8 {n:Nat} {V:Mt} {k:Nat} (h:Bw1 n V k=none):(∀ p,k≤p→p<n→ent V p p=0)∧∀ p q,k≤q→q<p→p<n→ent V p q=0:=by
 unfold Bw1 at h
 split at h
 · cases h
 · rename_i hd
   exact ⟨fun p a b=>Bv4 hd p a (by omega),fun p q a b c=>Cx6 (AC _) h p q (by omega) (by omega) a b⟩
theorem Es5 {n:Nat} {V:Mt} {k p q:Nat} (h:Bw1 n V k=some (p,q)):(p=q∧ent V p p≠0)∨(q<p∧ent V p q≠0∧∀ p,k≤p→p<n→ent V p p=0):=by
 unfold Bw1 at h
 split at h
 · rename_i i hd
   cases h
   exact .inl ⟨rfl,(Cp6 hd).2.2⟩
 · rename_i hd
   have:=Cs4 (AC _) h
   exact .inr ⟨by omega,Cx4 h,fun p a b=>Bv4 hd p a (by omega)⟩
theorem Gx5 (a b:Nat):swp a b a=b:=by unfold swp;rw [if_pos rfl]
theorem Dh8 {n k:Nat} {A:Nat→Nat→Rat} {V V':Mt} {last:Int} {b a:Nat} {ok:Bool} (hq:Sq n V) (hk:k<n) (hI:Inv n A k (ent V) last b a) (h:Bp2 n V k=some (ok,V')) :
 Sq n V'∧Inv n A k (ent V') last b a∧(ok=false→∀ i j,k≤i→i<n→k≤j→j<n→ent V' i j=0)∧(ok=true→ent V' k k≠0):=by
 unfold Bp2 at h
 split at h
 · rename_i hf
   have h:=Option.some.inj h
   cases h
   obtain ⟨e,m⟩:=Er8 hf
   refine ⟨hq,hI,fun _ i j g d o l=>?_,fun h=>by cases h⟩
   rcases Nat.lt_trichotomy i j with h | h | h
   · rw [hI.sym g d o l];exact m j i g h l
   · subst h;exact e i g d
   · exact m i j o h d
 · rename_i row col hf
   obtain ⟨e,m,c⟩:=Cn8 (Nat.le_of_lt hk) hf
   obtain ⟨V1,hV1,h⟩:=bnd h
   have h:=Option.some.inj h
   cases h
   have key:Sq n V1∧Inv n A k (ent V1) last b a∧ent V1 row row≠0:=by
    rcases Es5 hf with ⟨rfl,p⟩ | ⟨p,y,q⟩
    · rw [decide_eq_false (by omega),cF] at hV1
      obtain rfl:=Option.some.inj hV1
      exact ⟨hq,hI,p⟩
    · rw [decide_eq_true (show row≠col by omega),cT] at hV1
      obtain ⟨V2,hV2,hV1⟩:=bnd hV1
      obtain ⟨s,r⟩:=Cr0 hq c (by omega) hV2
      obtain ⟨f,t⟩:=Cu3 s c (by omega) hV1
      have hE:∀ i j,k≤i→i<n→k≤j→j<n→ent V1 i j=ent V i j+(if i=row then ent V col j else 0)+(if j=row then ent V i col else 0)+(if i=row∧j=row then ent V col col else 0):=by
       intro i j g d o l
       rw [t i j d,r i j l,r i col (by omega)]
       by_cases u:i=row<;>by_cases v:j=row<;>simp only [u,v,if_true,if_false,and_true,and_false,and_self]<;>omega
      refine ⟨f,hI.add (by omega) c e (by omega) (by omega) hE,?_⟩
      rw [hE row row (by omega) c (by omega) c,if_pos rfl,if_pos rfl,if_pos ⟨rfl,rfl⟩,q row (by omega) c,q col e (by omega),hI.sym e (by omega) (show k≤row by omega) c]
      omega
   obtain ⟨f,I1,x⟩:=key
   have hE:∀ i j,i<n→ent (swC k row n (swR V1 k row)) i j=ent V1 (swp k row i) (swp k row j):=fun i j hi=>by
    rw [Ez0 (Dp8 f hk c) hk c hi,Ey4 f hk c]
   refine ⟨Eo4 (Dp8 f hk c) (AC n),I1.swap (AC k) hk (by omega) c (fun i j _ d _ _=>hE i j d),(fun h=>by cases h),fun _=>?_⟩
   rw [hE k k hk,Gx5]
   exact x
def elF (V:Mt) (k:Nat) (p last:Int) (i j:Nat):Int:=(p*ent V i j-ent V i k*ent V k j).tdiv last
theorem Cp4 {n k:Nat} {p last:Int} {V V':Mt} (hq:Sq n V) (hk:k<n) (h:Ge9 n k p last V=some V'):Sq n V'∧∀ i j,i<n→j<n→ent V' i j=if k<i∧k<j then elF V k p last i j else ent V i j:=by
 have:=Au0 (fun m W=>Sq n W∧∀ i j,i<n→j<n→ent W i j=if (k<i∧i<k+1+m)∧k<j then elF V k p last i j else ent V i j) h ⟨hq,fun i j _ _=>by rw [if_neg (by omega)]⟩ (by
  rintro m c d hm ⟨u,f⟩ v
  have inner:=Au0 (fun t W=>Sq n W∧∀ i j,i<n→j<n→ent W i j=if i=k+1+m∧k<j∧j<k+1+t then elF V k p last i j else ent c i j) v ⟨u,fun i j _ _=>by rw [if_neg (by omega)]⟩ (by
   rintro t x y ht ⟨s,g⟩ a
   obtain ⟨z,l,a⟩:=bnd a
   obtain ⟨v2,o,a⟩:=bnd a
   obtain ⟨v3,q,a⟩:=bnd a
   obtain ⟨v4,r,a⟩:=bnd a
   obtain rfl:=Option.some.inj a
   have l:=Ep0 l
   have o:=Ep0 o
   have q:=Fw9 q
   have r:=Fs4 r
   refine ⟨At3 s (by omega),fun i j hi hj=>?_⟩
   rw [Br1 s (by omega) (by omega)]
   by_cases e:i=k+1+m∧j=k+1+t
   · obtain ⟨rfl,rfl⟩:=e
     rw [if_pos ⟨rfl,rfl⟩,if_pos ⟨rfl,by omega,by omega⟩,r,q,l,o,g _ _ (by omega) (by omega),g _ _ (by omega) (by omega),g _ _ (by omega) (by omega),if_neg (by omega),if_neg (by omega),if_neg (by omega),f _ _ (by omega) (by omega),f _ _ (by omega) (by omega),f _ _ (by omega) (by omega),if_neg (by omega),if_neg (by omega),if_neg (by omega)]
     rfl
   · rw [if_neg e,g i j hi hj]
     by_cases b:i=k+1+m∧k<j∧j<k+1+t
     · rw [if_pos b,if_pos ⟨b.1,b.2.1,by omega⟩]
     · rw [if_neg b,if_neg (by omega)])
  refine ⟨inner.1,fun i j hi hj=>?_⟩
  rw [inner.2 i j hi hj]
  by_cases e:i=k+1+m∧k<j
  · rw [if_pos ⟨e.1,e.2,by omega⟩,if_pos ⟨by omega,e.2⟩]
  · rw [if_neg (by omega),f i j hi hj]
    by_cases b:(k<i∧i<k+1+m)∧k<j
    · rw [if_pos b,if_pos ⟨by omega,b.2⟩]
    · rw [if_neg b,if_neg (by omega)])
 refine ⟨this.1,fun i j hi hj=>?_⟩
 rw [this.2 i j hi hj]
 by_cases e:k<i∧k<j
 · rw [if_pos ⟨by omega,e.2⟩,if_pos e]
 · rw [if_neg (by omega),if_neg e]
theorem Gl6 {p q:Int} (hp:p≠0) (hq:q≠0):(sgn p==sgn q)=decide (0<p↔0<q):=by
 unfold sgn
 rcases AD p 0 with h | h | h<;>rcases AD q 0 with g | g | g
 · rw [if_pos h,if_pos g,decide_eq_true (by constructor<;>intro<;>omega)];rfl
 · omega
 · rw [if_pos h,if_neg (by omega),if_neg (by omega),decide_eq_false (by intro c;have:=c.2 g;omega)];rfl
 · omega
 · omega
 · omega
 · rw [if_neg (by omega),if_neg (by omega),if_pos g,decide_eq_false (by intro c;have:=c.1 h;omega)];rfl
 · omega
 · rw [if_neg (by omega),if_neg (by omega),if_neg (by omega),if_neg (by omega),decide_eq_true (by constructor<;>intro<;>omega)];rfl
theorem Bw4 {n:Nat} {A:Nat→Nat→Rat}:∀ {r k:Nat} {V:Mt} {last:Int} {b a:Nat} {res:Int×Int×Int},r+k=n→Sq n V→Inv n A k (ent V) last b a→b+a=k→Bo8 n r k V last b a=some res →
 ∃ B T Ab:Nat,res=((B:Int),(T:Int),(Ab:Int))∧B+T+Ab=n∧Sig n A B Ab
 | 0,k,V,last,b,a,res,hr,hq,hI,hba,h=>by
   have h:=Option.some.inj (show some ((b:Int),(0:Int),(a:Int))=some res from h)
   refine ⟨b,0,a,h.symm,by omega,?_⟩
   exact hI.done (by omega) (fun i j d e _ _=>by omega)
 | r+1,k,V,last,b,a,res,hr,hq,hI,hba,h=>by
   obtain ⟨⟨ok,V2⟩,hpv,h⟩:=bnd (show (Bp2 n V k).bind _=some res from h)
   obtain ⟨m,I2,o,p⟩:=Dh8 hq (by omega) hI hpv
   cases ok with
   | false=>
     have h:=Option.some.inj (show some ((b:Int),((n-k:Nat):Int),(a:Int))=some res from h)
     refine ⟨b,n-k,a,h.symm,by omega,?_⟩
     exact I2.done (by omega) (o rfl)
   | true=>
     dsimp only at h
     rw [cT] at h
     obtain ⟨V3,hel,h⟩:=bnd h
     have hp:=p rfl
     obtain ⟨f,q⟩:=Cp4 m (by omega) hel
     obtain ⟨s,t⟩:=I2.step (by omega) hp
     have hl:=I2.last_ne
     have I3:=t (ent V3) (fun i j d e g l=>by
      rw [q i j e l,if_pos ⟨d,g⟩]
      unfold elF
      obtain ⟨z,hz⟩:=s i j d e g l
      rw [hz,AB _ hl])
     rw [Gl6 hp hl] at h
     by_cases c:(0<ent V2 k k↔0<last)
     · rw [decide_eq_true c,cT] at h
       rw [if_pos c,if_pos c] at I3
       exact Bw4 (r:=r) (k:=k+1) (b:=b) (a:=a+1) (by omega) f I3 (by omega) h
     · rw [decide_eq_false c,cF] at h
       rw [if_neg c,if_neg c] at I3
       exact Bw4 (r:=r) (k:=k+1) (b:=b+1) (a:=a) (by omega) f I3 (by omega) h
theorem Ev6 {n:Nat} {V:Mt} {res:Int×Int×Int} (hq:Sq n V) (hs:∀ i j,ent V i j=ent V j i) (h:Bm7 n V=some res) :
 ∃ B T Ab:Nat,res=((B:Int),(T:Int),(Ab:Int))∧B+T+Ab=n∧Sig n (fun i j=>(ent V i j:Rat)) B Ab:=
 Bw4 (r:=n) (k:=0) (b:=0) (a:=0) (by omega) hq (Inv.init hs) rfl h
end Go.Eng
/-
  inertia's rows: signs answers: no number grows too great in few rounds. No condition.
-/
namespace Go.Eng
open Go Go.Ine
theorem Ay1 {z:Int} {b:Nat} (h:z.natAbs<2^b) (hb:b≤34359738368):Bw8 z=some z:=by
 refine Gq8 ?_
 by_cases a:z.natAbs=0
 · rw [a];decide
 · have:=(Nat.log2_lt a).2 h
   omega
theorem Cq6 (a:Nat):2^(a+1)=2*2^a:=by rw [Nat.pow_succ];omega
theorem Al5 {x b c:Nat} (h:x<2^b) (hb:b≤c):x<2^c:=Nat.lt_of_lt_of_le h (Nat.pow_le_pow_right (by decide) hb)
theorem Du0 {x y:Int} {b:Nat} (hx:x.natAbs<2^b) (hy:y.natAbs<2^b):(x+y).natAbs<2^(b+1):=by
 rw [Cq6]
 generalize 2^b=p at *
 omega
theorem Fy5 {x y:Int} {b:Nat} (hx:x.natAbs<2^b) (hy:y.natAbs<2^b):(x-y).natAbs<2^(b+1):=by
 rw [Cq6]
 generalize 2^b=p at *
 omega
theorem Dr0 {x y:Int} {b c:Nat} (hx:x.natAbs<2^b) (hy:y.natAbs<2^c):(x*y).natAbs<2^(b+c):=by
 rw [Int.natAbs_mul,Nat.pow_add]
 exact Nat.mul_lt_mul'' hx hy
theorem Gs0 {x y:Int} {b:Nat} (hx:x.natAbs<2^b):(x.tdiv y).natAbs<2^b:=by
 rw [Int.natAbs_tdiv]
 exact Nat.lt_of_le_of_lt (Nat.div_le_self _ _) hx
theorem Ca0 {x y:Int} {b:Nat} (hx:x.natAbs<2^b) (hy:y.natAbs<2^b) (hb:b≤34359738368):Au1 x y=some (x+y):=by
 unfold Au1
 rw [Ay1 hx hb,AA,Ay1 hy hb,AA]
theorem Ep2 {x y:Int} {b:Nat} (hx:x.natAbs<2^b) (hy:y.natAbs<2^b) (hb:b≤34359738368):Ct9 x y=some (x-y):=by
 unfold Ct9
 rw [Ay1 hx hb,AA,Ay1 hy hb,AA]
theorem Do2 {x y:Int} {b:Nat} (hx:x.natAbs<2^b) (hy:y.natAbs<2^b) (hb:b≤34359738368):Bt7 x y=some (x*y):=by
 unfold Bt7
 rw [Ay1 hx hb,AA,Ay1 hy hb,AA]
theorem Ep6 {x y:Int} {b:Nat} (hx:x.natAbs<2^b) (hy:y.natAbs<2^b) (a:y≠0) (hb:b≤34359738368):Cj0 x y=some (x.tdiv y):=by
 unfold Cj0
 rw [if_neg a,Ay1 hx hb,AA,Ay1 hy hb,AA]
theorem Ap2 {α:Type} {f:Nat→α→Option α} (Q:Nat→α→Prop):∀ {n:Nat} {a:α},Q 0 a→(∀ k c,k<n→Q k c→∃ d,f k c=some d∧Q (k+1) d)→∃ b,Al1 f n a=some b∧Q n b
 | 0,a,e,_=>⟨a,rfl,e⟩
 | n+1,a,e,hs=>by
   obtain ⟨c,g,h⟩:=Ap2 (n:=n) Q e fun k c hk=>hs k c (by omega)
   obtain ⟨d,i,j⟩:=hs n c (by omega) h
   refine ⟨d,?_,j⟩
   show (Al1 f n a).bind (f n)=some d
   rw [g]
   exact i
def Bd (n:Nat) (V:Mt) (b:Nat):Prop:=∀ i j,i<n→j<n→(ent V i j).natAbs<2^b
theorem Bd.mono {n:Nat} {V:Mt} {b c:Nat} (h:Bd n V b) (hb:b≤c):Bd n V c:=fun i j hi hj=>Al5 (h i j hi hj) hb
theorem Du3 {n row col b:Nat} {V:Mt} (hq:Sq n V) (hr:row<n) (hc:col<n) (hne:row≠col) (hb:Bd n V b) (hl:b≤34359738368):∃ V',Dm5 n row col V=some V'∧Sq n V'∧Bd n V' (b+1):=by
 obtain ⟨V',h,_⟩:=Ap2 (f:=fun k V=>(Au1 (ent V row k) (ent V col k)).bind fun y=>some (Cd5 V row k y)) (n:=n) (a:=V)
  (fun k V'=>Sq n V'∧∀ a c,¬ (a=row∧c<k)→ent V' a c=ent V a c) ⟨hq,fun a c _=>rfl⟩ (by
   rintro k V1 hk ⟨g,d⟩
   refine ⟨Cd5 V1 row k (ent V1 row k+ent V1 col k),?_,At3 g hr,fun a c hac=>?_⟩
   · rw [d row k (by omega),d col k (by omega),Ca0 (hb _ _ hr hk) (hb _ _ hc hk) hl];rfl
   · rw [Bi4 g hr hk (by omega)]
     exact d a c (by omega))
 have e:=Cr0 hq hr hne h
 refine ⟨V',h,e.1,fun i j hi hj=>?_⟩
 rw [e.2 i j hj]
 split
 · exact Du0 (hb _ _ hi hj) (hb _ _ hc hj)
 · exact Al5 (hb _ _ hi hj) (by omega)
theorem Dq9 {n row col b:Nat} {V:Mt} (hq:Sq n V) (hr:row<n) (hc:col<n) (hne:row≠col) (hb:Bd n V b) (hl:b≤34359738368):∃ V',Dl6 n row col V=some V'∧Sq n V'∧Bd n V' (b+1):=by
 obtain ⟨V',h,_⟩:=Ap2 (f:=fun k V=>(Au1 (ent V k row) (ent V k col)).bind fun y=>some (Cd5 V k row y)) (n:=n) (a:=V)
  (fun k V'=>Sq n V'∧∀ a c,¬ (c=row∧a<k)→ent V' a c=ent V a c) ⟨hq,fun a c _=>rfl⟩ (by
   rintro k V1 hk ⟨g,d⟩
   refine ⟨Cd5 V1 k row (ent V1 k row+ent V1 k col),?_,At3 g hk,fun a c hac=>?_⟩
   · rw [d k row (by omega),d k col (by omega),Ca0 (hb _ _ hk hr) (hb _ _ hk hc) hl];rfl
   · rw [Bi4 g hk hr (by omega)]
     exact d a c (by omega))
 have e:=Cu3 hq hr hne h
 refine ⟨V',h,e.1,fun i j hi hj=>?_⟩
 rw [e.2 i j hi]
 split
 · exact Du0 (hb _ _ hi hj) (hb _ _ hi hc)
 · exact Al5 (hb _ _ hi hj) (by omega)
theorem Cj9 {n a b i:Nat} (ha:a<n) (hb:b<n) (hi:i<n):swp a b i<n:=by
 unfold swp
 split
 · exact hb
 · split
   · exact ha
   · exact hi
theorem Fd4 {n a b c:Nat} {V:Mt} (hq:Sq n V) (ha:a<n) (hb:b<n) (h:Bd n V c):Bd n (swC a b n (swR V a b)) c:=fun i j hi hj=>by
 rw [Ez0 (Dp8 hq ha hb) ha hb hi,Ey4 hq ha hb]
 exact h _ _ (Cj9 ha hb hi) (Cj9 ha hb hj)
theorem Ee7 {n k b:Nat} {V:Mt} (hq:Sq n V) (hk:k<n) (hb:Bd n V b) (hl:b+1≤34359738368):∃ ok V',Bp2 n V k=some (ok,V')∧Bd n V' (b+2):=by
 unfold Bp2
 cases hf:Bw1 n V k with
 | none=>exact ⟨false,V,rfl,hb.mono (by omega)⟩
 | some pq=>
   obtain ⟨row,col⟩:=pq
   have hin:=Cn8 (by omega) hf
   dsimp only
   by_cases hne:row=col
   · rw [decide_eq_false (by omega),cF]
     exact ⟨true,_,rfl,(Fd4 hq hk (by omega) hb).mono (by omega)⟩
   · rw [decide_eq_true hne,cT]
     obtain ⟨V1,a,c,d⟩:=Du3 hq (show row<n by omega) (show col<n by omega) hne hb (by omega)
     obtain ⟨V2,e,f,g⟩:=Dq9 c (show row<n by omega) (show col<n by omega) hne d (by omega)
     rw [a,AA,e,AA]
     exact ⟨true,_,rfl,Fd4 f hk (by omega) g⟩
theorem Ex1 {n k b:Nat} {last:Int} {V:Mt} (hq:Sq n V) (hk:k<n) (hb:Bd n V b) (l:last≠0) (hla:last.natAbs<2^b) (hl:2*b+1≤34359738368):∃ V',Ge9 n k (ent V k k) last V=some V'∧Bd n V' (2*b+1):=by
 have st:∀ i j,i<n→j<n→(ent V k k*ent V i j-ent V i k*ent V k j).natAbs<2^(2*b+1):=fun i j hi hj=>by
  have:=Fy5 (Dr0 (hb k k hk hk) (hb i j hi hj)) (Dr0 (hb i k hi hk) (hb k j hk hj))
  rw [show b+b+1=2*b+1 by omega] at this
  exact this
 obtain ⟨V',h,_⟩:=Ap2 (f:=Ge5 n k (ent V k k) last) (n:=n-k-1) (a:=V)
  (fun m V'=>Sq n V'∧∀ a c,¬ ((k<a∧a<k+1+m)∧k<c)→ent V' a c=ent V a c) ⟨hq,fun a c _=>rfl⟩ (by
   rintro m V1 hm ⟨o,d⟩
   have hi:k+1+m<n:=by omega
   obtain ⟨V2,p,q,r⟩:=Ap2 (f:=Fq6 n k (ent V k k) last (k+1+m)) (n:=n-k-1) (a:=V1)
    (fun t V'=>Sq n V'∧∀ a c,¬ (a=k+1+m∧k<c∧c<k+1+t)→ent V' a c=ent V1 a c) ⟨o,fun a c _=>rfl⟩ (by
     rintro t V3 ht ⟨g,e⟩
     have hj:k+1+t<n:=by omega
     refine ⟨Cd5 V3 (k+1+m) (k+1+t) ((ent V k k*ent V (k+1+m) (k+1+t)-ent V (k+1+m) k*ent V k (k+1+t)).tdiv last),?_,At3 g hi,fun a c hac=>?_⟩
     · unfold Fq6
       rw [e _ _ (by omega),e _ _ (by omega),e _ _ (by omega),d _ _ (by omega),d _ _ (by omega),d _ _ (by omega)]
       rw [Do2 (hb _ _ hk hk) (hb _ _ hi hj) (by omega),AA,Do2 (hb _ _ hi hk) (hb _ _ hk hj) (by omega),AA,
        Ep2 (Dr0 (hb _ _ hk hk) (hb _ _ hi hj)) (Dr0 (hb _ _ hi hk) (hb _ _ hk hj)) (by omega),AA,Ep6 (st _ _ hi hj) (Al5 hla (by omega)) l hl,AA]
     · rw [Bi4 g hi hj (by omega)]
       exact e a c (by omega))
   refine ⟨V2,p,q,fun a c hac=>?_⟩
   rw [r a c (by omega)]
   exact d a c (by omega))
 refine ⟨V',h,fun i j hi hj=>?_⟩
 rw [(Cp4 hq hk h).2 i j hi hj]
 split
 · exact Gs0 (st i j hi hj)
 · exact Al5 (hb i j hi hj) (by omega)
theorem Ch8 {n:Nat} {A:Nat→Nat→Rat} {lim:Nat}:∀ {r k b:Nat} {V:Mt} {last:Int} {be ab:Nat},r+k=n→Sq n V→Inv n A k (ent V) last be ab→Bd n V b→last.natAbs<2^b→(b+6)*2^r≤34359738368→∀ x y,∃ res,Bo8 n r k V last x y=some res
 | 0,k,b,V,last,be,ab,hr,hq,hI,hb,hla,hl,x,y=>⟨_,rfl⟩
 | r+1,k,b,V,last,be,ab,hr,hq,hI,hb,hla,hl,x,y=>by
   have hp:1≤2^r:=Nat.one_le_two_pow
   have a:(b+6)*2*2^r≤34359738368:=by rw [Nat.pow_succ,Nat.mul_comm (2^r) 2,← Nat.mul_assoc] at hl;exact hl
   have v:(b+6)*2≤34359738368:=Nat.le_trans (Nat.le_mul_of_pos_right _ hp) a
   obtain ⟨ok,V2,c,d⟩:=Ee7 hq (show k<n by omega) hb (by omega)
   obtain ⟨e,I2,z0,o⟩:=Dh8 hq (by omega) hI c
   unfold Bo8
   rw [c,AA]
   dsimp only
   cases ok with
   | false=>exact ⟨_,rfl⟩
   | true=>
     rw [cT]
     have f:=I2.last_ne
     obtain ⟨V3,hel,p⟩:=Ex1 e (show k<n by omega) d f (Al5 hla (by omega)) (by omega)
     rw [hel,AA]
     obtain ⟨q,s⟩:=Cp4 e (by omega) hel
     obtain ⟨t,u⟩:=I2.step (by omega) (o rfl)
     have I3:=u (ent V3) (fun i j g h l m=>by
      rw [s i j h m,if_pos ⟨g,l⟩]
      unfold elF
      obtain ⟨z,hz⟩:=t i j g h l m
      rw [hz,AB _ f])
     have go:=fun x y=>Ch8 (lim:=lim) (r:=r) (k:=k+1) (b:=2*(b+2)+2) (by omega) q I3 (p.mono (by omega)) (Al5 (d k k (by omega) (by omega)) (by omega)) (by
      rw [show 2*(b+2)+2+6=(b+6)*2 by omega];exact a) x y
     cases sgn (ent V2 k k)==sgn last with
     | true=>exact go _ _
     | false=>exact go _ _
theorem Ef6 {n b:Nat} {V:Mt} (hq:Sq n V) (hs:∀ i j,ent V i j=ent V j i) (hb:Bd n V b) (a:1≤b) (hl:(b+6)*2^n≤34359738368):∃ res,Bm7 n V=some res:=
 Ch8 (lim:=0) (r:=n) (k:=0) (by omega) hq (Inv.init hs) hb (Al5 (b:=1) (by decide) a) hl _ _
end Go.Eng
