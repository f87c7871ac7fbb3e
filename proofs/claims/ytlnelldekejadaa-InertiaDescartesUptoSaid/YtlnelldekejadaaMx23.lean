/-
  inertia's rows: signs tells the signs. No condition.
-/
import Derived.Test.YtlnelldekejadaaMx24
set_option linter.all false
set_option maxRecDepth 100000
set_option maxHeartbeats 4000000
namespace Go.Eng
open Go Go.Ine
theorem findT_none {n:Nat} {V:Mt} {k:Nat} (h:findT n V k=none):(∀ p,k≤p→p<n→ent V p p=0)∧∀ p q,k≤q→q<p→p<n→ent V p q=0:=by
  unfold findT at h
  split at h
  · cases h
  · rename_i hd
    exact ⟨fun p h1 h2=>diagAt_none hd p h1 (by omega),fun p q h1 h2 h3=>offAll_none (Nat.le_refl _) h p q (by omega) (by omega) h1 h2⟩
theorem findT_some {n:Nat} {V:Mt} {k p q:Nat} (h:findT n V k=some (p,q)):(p=q∧ent V p p≠0)∨(q<p∧ent V p q≠0∧∀ p,k≤p→p<n→ent V p p=0):=by
  unfold findT at h
  split at h
  · rename_i i hd
    cases h
    exact .inl ⟨rfl,(diagAt_in hd).2.2⟩
  · rename_i hd
    have:=offAll_in (Nat.le_refl _) h
    exact .inr ⟨by omega,offAll_some h,fun p h1 h2=>diagAt_none hd p h1 (by omega)⟩
theorem swp_l (a b:Nat):swp a b a=b:=by unfold swp;rw [if_pos rfl]
theorem pivotT_inv {n k:Nat} {A:Nat→Nat→Rat} {V V':Mt} {last:Int} {b a:Nat} {ok:Bool} (hq:Sq n V) (hk:k<n) (hI:Inv n A k (ent V) last b a) (h:pivotT n V k=some (ok,V')) :
    Sq n V'∧Inv n A k (ent V') last b a∧(ok=false→∀ i j,k≤i→i<n→k≤j→j<n→ent V' i j=0)∧(ok=true→ent V' k k≠0):=by
  unfold pivotT at h
  split at h
  · rename_i hf
    have h:=Option.some.inj h
    cases h
    obtain ⟨h1,h2⟩:=findT_none hf
    refine ⟨hq,hI,fun _ i j c1 c2 c3 c4=>?_,fun h=>by cases h⟩
    rcases Nat.lt_trichotomy i j with h | h | h
    · rw [hI.sym c1 c2 c3 c4];exact h2 j i c1 h c4
    · subst h;exact h1 i c1 c2
    · exact h2 i j c3 h c2
  · rename_i row col hf
    obtain ⟨h1,h2,h3⟩:=findT_in (Nat.le_of_lt hk) hf
    obtain ⟨V1,hV1,h⟩:=bnd h
    have h:=Option.some.inj h
    cases h
    have key:Sq n V1∧Inv n A k (ent V1) last b a∧ent V1 row row≠0:=by
      rcases findT_some hf with ⟨rfl,h4⟩ | ⟨h4,h5,h6⟩
      · rw [decide_eq_false (by omega),cF] at hV1
        obtain rfl:=Option.some.inj hV1
        exact ⟨hq,hI,h4⟩
      · rw [decide_eq_true (show row≠col by omega),cT] at hV1
        obtain ⟨V2,hV2,hV1⟩:=bnd hV1
        obtain ⟨q2,e2⟩:=addRowT_ent hq h3 (by omega) hV2
        obtain ⟨q1,e1⟩:=addColT_ent q2 h3 (by omega) hV1
        have hE:∀ i j,k≤i→i<n→k≤j→j<n→ent V1 i j=ent V i j+(if i=row then ent V col j else 0)+(if j=row then ent V i col else 0)+(if i=row∧j=row then ent V col col else 0):=by
          intro i j c1 c2 c3 c4
          rw [e1 i j c2,e2 i j c4,e2 i col (by omega)]
          by_cases d1:i=row<;>by_cases d2:j=row<;>simp only [d1,d2,if_true,if_false,and_true,and_false,and_self]<;>omega
        refine ⟨q1,hI.add (by omega) h3 h1 (by omega) (by omega) hE,?_⟩
        rw [hE row row (by omega) h3 (by omega) h3,if_pos rfl,if_pos rfl,if_pos ⟨rfl,rfl⟩,h6 row (by omega) h3,h6 col h1 (by omega),hI.sym h1 (by omega) (show k≤row by omega) h3]
        omega
    obtain ⟨q1,I1,z1⟩:=key
    have hE:∀ i j,i<n→ent (swC k row n (swR V1 k row)) i j=ent V1 (swp k row i) (swp k row j):=fun i j hi=>by
      rw [swC_ent (sq_swR q1 hk h3) hk h3 hi,swR_ent q1 hk h3]
    refine ⟨sq_swC (sq_swR q1 hk h3) (Nat.le_refl n),I1.swap (Nat.le_refl k) hk (by omega) h3 (fun i j _ c2 _ _=>hE i j c2),(fun h=>by cases h),fun _=>?_⟩
    rw [hE k k hk,swp_l]
    exact z1
def elF (V:Mt) (k:Nat) (p last:Int) (i j:Nat):Int:=(p*ent V i j-ent V i k*ent V k j).tdiv last
theorem elimT_ent {n k:Nat} {p last:Int} {V V':Mt} (hq:Sq n V) (hk:k<n) (h:elimT n k p last V=some V'):Sq n V'∧∀ i j,i<n→j<n→ent V' i j=if k<i∧k<j then elF V k p last i j else ent V i j:=by
  have:=foldO_indN (fun m W=>Sq n W∧∀ i j,i<n→j<n→ent W i j=if (k<i∧i<k+1+m)∧k<j then elF V k p last i j else ent V i j) h ⟨hq,fun i j _ _=>by rw [if_neg (by omega)]⟩ (by
    rintro m c d hm ⟨h1,h2⟩ h3
    have inner:=foldO_indN (fun t W=>Sq n W∧∀ i j,i<n→j<n→ent W i j=if i=k+1+m∧k<j∧j<k+1+t then elF V k p last i j else ent c i j) h3 ⟨h1,fun i j _ _=>by rw [if_neg (by omega)]⟩ (by
      rintro t c2 d2 ht ⟨g1,g2⟩ g3
      obtain ⟨v1,m1,g3⟩:=bnd g3
      obtain ⟨v2,m2,g3⟩:=bnd g3
      obtain ⟨v3,m3,g3⟩:=bnd g3
      obtain ⟨v4,m4,g3⟩:=bnd g3
      obtain rfl:=Option.some.inj g3
      have m1:=bigMul_e m1
      have m2:=bigMul_e m2
      have m3:=bigSub_e m3
      have m4:=bigQuo_e m4
      refine ⟨sq_setE g1 (by omega),fun i j hi hj=>?_⟩
      rw [ent_setE g1 (by omega) (by omega)]
      by_cases e:i=k+1+m∧j=k+1+t
      · obtain ⟨rfl,rfl⟩:=e
        rw [if_pos ⟨rfl,rfl⟩,if_pos ⟨rfl,by omega,by omega⟩,m4,m3,m1,m2,g2 _ _ (by omega) (by omega),g2 _ _ (by omega) (by omega),g2 _ _ (by omega) (by omega),if_neg (by omega),if_neg (by omega),if_neg (by omega),h2 _ _ (by omega) (by omega),h2 _ _ (by omega) (by omega),h2 _ _ (by omega) (by omega),if_neg (by omega),if_neg (by omega),if_neg (by omega)]
        rfl
      · rw [if_neg e,g2 i j hi hj]
        by_cases e2:i=k+1+m∧k<j∧j<k+1+t
        · rw [if_pos e2,if_pos ⟨e2.1,e2.2.1,by omega⟩]
        · rw [if_neg e2,if_neg (by omega)])
    refine ⟨inner.1,fun i j hi hj=>?_⟩
    rw [inner.2 i j hi hj]
    by_cases e:i=k+1+m∧k<j
    · rw [if_pos ⟨e.1,e.2,by omega⟩,if_pos ⟨by omega,e.2⟩]
    · rw [if_neg (by omega),h2 i j hi hj]
      by_cases e2:(k<i∧i<k+1+m)∧k<j
      · rw [if_pos e2,if_pos ⟨by omega,e2.2⟩]
      · rw [if_neg e2,if_neg (by omega)])
  refine ⟨this.1,fun i j hi hj=>?_⟩
  rw [this.2 i j hi hj]
  by_cases e:k<i∧k<j
  · rw [if_pos ⟨by omega,e.2⟩,if_pos e]
  · rw [if_neg (by omega),if_neg e]
theorem sgn_iff {p q:Int} (hp:p≠0) (hq:q≠0):(sgn p==sgn q)=decide (0<p↔0<q):=by
  unfold sgn
  rcases Int.lt_trichotomy p 0 with h | h | h<;>rcases Int.lt_trichotomy q 0 with g | g | g
  · rw [if_pos h,if_pos g,decide_eq_true (by constructor<;>intro<;>omega)];rfl
  · omega
  · rw [if_pos h,if_neg (by omega),if_neg (by omega),decide_eq_false (by intro c;have:=c.2 g;omega)];rfl
  · omega
  · omega
  · omega
  · rw [if_neg (by omega),if_neg (by omega),if_pos g,decide_eq_false (by intro c;have:=c.1 h;omega)];rfl
  · omega
  · rw [if_neg (by omega),if_neg (by omega),if_neg (by omega),if_neg (by omega),decide_eq_true (by constructor<;>intro<;>omega)];rfl
theorem signsGo_sig {n:Nat} {A:Nat→Nat→Rat}:∀ {r k:Nat} {V:Mt} {last:Int} {b a:Nat} {res:Int×Int×Int},r+k=n→Sq n V→Inv n A k (ent V) last b a→b+a=k→signsGo n r k V last b a=some res →
    ∃ B T Ab:Nat,res=((B:Int),(T:Int),(Ab:Int))∧B+T+Ab=n∧Sig n A B Ab
  | 0,k,V,last,b,a,res,hr,hq,hI,hba,h=>by
    have h:=Option.some.inj (show some ((b:Int),(0:Int),(a:Int))=some res from h)
    refine ⟨b,0,a,h.symm,by omega,?_⟩
    exact hI.done (by omega) (fun i j c1 c2 _ _=>by omega)
  | r+1,k,V,last,b,a,res,hr,hq,hI,hba,h=>by
    obtain ⟨⟨ok,V2⟩,hpv,h⟩:=bnd (show (pivotT n V k).bind _=some res from h)
    obtain ⟨q2,I2,z0,z1⟩:=pivotT_inv hq (by omega) hI hpv
    cases ok with
    | false=>
      have h:=Option.some.inj (show some ((b:Int),((n-k:Nat):Int),(a:Int))=some res from h)
      refine ⟨b,n-k,a,h.symm,by omega,?_⟩
      exact I2.done (by omega) (z0 rfl)
    | true=>
      dsimp only at h
      rw [cT] at h
      obtain ⟨V3,hel,h⟩:=bnd h
      have hp:=z1 rfl
      obtain ⟨q3,e3⟩:=elimT_ent q2 (by omega) hel
      obtain ⟨s1,s2⟩:=I2.step (by omega) hp
      have hl:=I2.last_ne
      have I3:=s2 (ent V3) (fun i j c1 c2 c3 c4=>by
        rw [e3 i j c2 c4,if_pos ⟨c1,c3⟩]
        unfold elF
        obtain ⟨z,hz⟩:=s1 i j c1 c2 c3 c4
        rw [hz,Int.mul_tdiv_cancel_left _ hl])
      rw [sgn_iff hp hl] at h
      by_cases c:(0<ent V2 k k↔0<last)
      · rw [decide_eq_true c,cT] at h
        rw [if_pos c,if_pos c] at I3
        exact signsGo_sig (r:=r) (k:=k+1) (b:=b) (a:=a+1) (by omega) q3 I3 (by omega) h
      · rw [decide_eq_false c,cF] at h
        rw [if_neg c,if_neg c] at I3
        exact signsGo_sig (r:=r) (k:=k+1) (b:=b+1) (a:=a) (by omega) q3 I3 (by omega) h
theorem signsT_sig {n:Nat} {V:Mt} {res:Int×Int×Int} (hq:Sq n V) (hs:∀ i j,ent V i j=ent V j i) (h:signsT n V=some res) :
    ∃ B T Ab:Nat,res=((B:Int),(T:Int),(Ab:Int))∧B+T+Ab=n∧Sig n (fun i j=>(ent V i j:Rat)) B Ab:=
  signsGo_sig (r:=n) (k:=0) (b:=0) (a:=0) (by omega) hq (Inv.init hs) rfl h
end Go.Eng
/-
  inertia's rows: signs answers: no number grows too great in few rounds. No condition.
-/
set_option maxRecDepth 100000
set_option maxHeartbeats 4000000
namespace Go.Eng
open Go Go.Ine
theorem bgOk_bd {z:Int} {b:Nat} (h:z.natAbs<2^b) (hb:b≤34359738368):bgOk z=some z:=by
  refine bgOk_t ?_
  by_cases h0:z.natAbs=0
  · rw [h0];decide
  · have:=(Nat.log2_lt h0).2 h
    omega
theorem pow_two_mul (a:Nat):2^(a+1)=2*2^a:=by rw [Nat.pow_succ];omega
theorem bd_mono {x b c:Nat} (h:x<2^b) (hb:b≤c):x<2^c:=Nat.lt_of_lt_of_le h (Nat.pow_le_pow_right (by decide) hb)
theorem bd_add {x y:Int} {b:Nat} (hx:x.natAbs<2^b) (hy:y.natAbs<2^b):(x+y).natAbs<2^(b+1):=by
  rw [pow_two_mul]
  generalize 2^b=p at *
  omega
theorem bd_sub {x y:Int} {b:Nat} (hx:x.natAbs<2^b) (hy:y.natAbs<2^b):(x-y).natAbs<2^(b+1):=by
  rw [pow_two_mul]
  generalize 2^b=p at *
  omega
theorem bd_mul {x y:Int} {b c:Nat} (hx:x.natAbs<2^b) (hy:y.natAbs<2^c):(x*y).natAbs<2^(b+c):=by
  rw [Int.natAbs_mul,Nat.pow_add]
  exact Nat.mul_lt_mul'' hx hy
theorem bd_quo {x y:Int} {b:Nat} (hx:x.natAbs<2^b):(x.tdiv y).natAbs<2^b:=by
  rw [Int.natAbs_tdiv]
  exact Nat.lt_of_le_of_lt (Nat.div_le_self _ _) hx
theorem bigAdd_s {x y:Int} {b:Nat} (hx:x.natAbs<2^b) (hy:y.natAbs<2^b) (hb:b≤34359738368):bigAdd x y=some (x+y):=by
  unfold bigAdd
  rw [bgOk_bd hx hb,Option.bind_some,bgOk_bd hy hb,Option.bind_some]
theorem bigSub_s {x y:Int} {b:Nat} (hx:x.natAbs<2^b) (hy:y.natAbs<2^b) (hb:b≤34359738368):bigSub x y=some (x-y):=by
  unfold bigSub
  rw [bgOk_bd hx hb,Option.bind_some,bgOk_bd hy hb,Option.bind_some]
theorem bigMul_s {x y:Int} {b:Nat} (hx:x.natAbs<2^b) (hy:y.natAbs<2^b) (hb:b≤34359738368):bigMul x y=some (x*y):=by
  unfold bigMul
  rw [bgOk_bd hx hb,Option.bind_some,bgOk_bd hy hb,Option.bind_some]
theorem bigQuo_s {x y:Int} {b:Nat} (hx:x.natAbs<2^b) (hy:y.natAbs<2^b) (h0:y≠0) (hb:b≤34359738368):bigQuo x y=some (x.tdiv y):=by
  unfold bigQuo
  rw [if_neg h0,bgOk_bd hx hb,Option.bind_some,bgOk_bd hy hb,Option.bind_some]
theorem foldO_ex {α:Type} {f:Nat→α→Option α} (Q:Nat→α→Prop):∀ {n:Nat} {a:α},Q 0 a→(∀ k c,k<n→Q k c→∃ d,f k c=some d∧Q (k+1) d)→∃ b,foldO f n a=some b∧Q n b
  | 0,a,h0,_=>⟨a,rfl,h0⟩
  | n+1,a,h0,hs=>by
    obtain ⟨c,h1,h2⟩:=foldO_ex (n:=n) Q h0 fun k c hk=>hs k c (by omega)
    obtain ⟨d,h3,h4⟩:=hs n c (by omega) h2
    refine ⟨d,?_,h4⟩
    show (foldO f n a).bind (f n)=some d
    rw [h1]
    exact h3
def Bd (n:Nat) (V:Mt) (b:Nat):Prop:=∀ i j,i<n→j<n→(ent V i j).natAbs<2^b
theorem Bd.mono {n:Nat} {V:Mt} {b c:Nat} (h:Bd n V b) (hb:b≤c):Bd n V c:=fun i j hi hj=>bd_mono (h i j hi hj) hb
theorem addRowT_some {n row col b:Nat} {V:Mt} (hq:Sq n V) (hr:row<n) (hc:col<n) (hne:row≠col) (hb:Bd n V b) (hl:b≤34359738368):∃ V',addRowT n row col V=some V'∧Sq n V'∧Bd n V' (b+1):=by
  obtain ⟨V',h,_⟩:=foldO_ex (f:=fun k V=>(bigAdd (ent V row k) (ent V col k)).bind fun y=>some (setE V row k y)) (n:=n) (a:=V)
    (fun k V'=>Sq n V'∧∀ a c,¬ (a=row∧c<k)→ent V' a c=ent V a c) ⟨hq,fun a c _=>rfl⟩ (by
      rintro k V1 hk ⟨h1,h2⟩
      refine ⟨setE V1 row k (ent V1 row k+ent V1 col k),?_,sq_setE h1 hr,fun a c hac=>?_⟩
      · rw [h2 row k (by omega),h2 col k (by omega),bigAdd_s (hb _ _ hr hk) (hb _ _ hc hk) hl];rfl
      · rw [ent_setE2 h1 hr hk (by omega)]
        exact h2 a c (by omega))
  have e:=addRowT_ent hq hr hne h
  refine ⟨V',h,e.1,fun i j hi hj=>?_⟩
  rw [e.2 i j hj]
  split
  · exact bd_add (hb _ _ hi hj) (hb _ _ hc hj)
  · exact bd_mono (hb _ _ hi hj) (by omega)
theorem addColT_some {n row col b:Nat} {V:Mt} (hq:Sq n V) (hr:row<n) (hc:col<n) (hne:row≠col) (hb:Bd n V b) (hl:b≤34359738368):∃ V',addColT n row col V=some V'∧Sq n V'∧Bd n V' (b+1):=by
  obtain ⟨V',h,_⟩:=foldO_ex (f:=fun k V=>(bigAdd (ent V k row) (ent V k col)).bind fun y=>some (setE V k row y)) (n:=n) (a:=V)
    (fun k V'=>Sq n V'∧∀ a c,¬ (c=row∧a<k)→ent V' a c=ent V a c) ⟨hq,fun a c _=>rfl⟩ (by
      rintro k V1 hk ⟨h1,h2⟩
      refine ⟨setE V1 k row (ent V1 k row+ent V1 k col),?_,sq_setE h1 hk,fun a c hac=>?_⟩
      · rw [h2 k row (by omega),h2 k col (by omega),bigAdd_s (hb _ _ hk hr) (hb _ _ hk hc) hl];rfl
      · rw [ent_setE2 h1 hk hr (by omega)]
        exact h2 a c (by omega))
  have e:=addColT_ent hq hr hne h
  refine ⟨V',h,e.1,fun i j hi hj=>?_⟩
  rw [e.2 i j hi]
  split
  · exact bd_add (hb _ _ hi hj) (hb _ _ hi hc)
  · exact bd_mono (hb _ _ hi hj) (by omega)
theorem swp_lt {n a b i:Nat} (ha:a<n) (hb:b<n) (hi:i<n):swp a b i<n:=by
  unfold swp
  split
  · exact hb
  · split
    · exact ha
    · exact hi
theorem swap_bd {n a b c:Nat} {V:Mt} (hq:Sq n V) (ha:a<n) (hb:b<n) (h:Bd n V c):Bd n (swC a b n (swR V a b)) c:=fun i j hi hj=>by
  rw [swC_ent (sq_swR hq ha hb) ha hb hi,swR_ent hq ha hb]
  exact h _ _ (swp_lt ha hb hi) (swp_lt ha hb hj)
theorem pivotT_some {n k b:Nat} {V:Mt} (hq:Sq n V) (hk:k<n) (hb:Bd n V b) (hl:b+1≤34359738368):∃ ok V',pivotT n V k=some (ok,V')∧Bd n V' (b+2):=by
  unfold pivotT
  cases hf:findT n V k with
  | none=>exact ⟨false,V,rfl,hb.mono (by omega)⟩
  | some pq=>
    obtain ⟨row,col⟩:=pq
    have hin:=findT_in (by omega) hf
    dsimp only
    by_cases hne:row=col
    · rw [decide_eq_false (by omega),cF]
      exact ⟨true,_,rfl,(swap_bd hq hk (by omega) hb).mono (by omega)⟩
    · rw [decide_eq_true hne,cT]
      obtain ⟨V1,h1,q1,b1⟩:=addRowT_some hq (show row<n by omega) (show col<n by omega) hne hb (by omega)
      obtain ⟨V2,h2,q2,b2⟩:=addColT_some q1 (show row<n by omega) (show col<n by omega) hne b1 (by omega)
      rw [h1,Option.bind_some,h2,Option.bind_some]
      exact ⟨true,_,rfl,swap_bd q2 hk (by omega) b2⟩
theorem elimT_some {n k b:Nat} {last:Int} {V:Mt} (hq:Sq n V) (hk:k<n) (hb:Bd n V b) (h0:last≠0) (hla:last.natAbs<2^b) (hl:2*b+1≤34359738368):∃ V',elimT n k (ent V k k) last V=some V'∧Bd n V' (2*b+1):=by
  have st:∀ i j,i<n→j<n→(ent V k k*ent V i j-ent V i k*ent V k j).natAbs<2^(2*b+1):=fun i j hi hj=>by
    have:=bd_sub (bd_mul (hb k k hk hk) (hb i j hi hj)) (bd_mul (hb i k hi hk) (hb k j hk hj))
    rw [show b+b+1=2*b+1 by omega] at this
    exact this
  obtain ⟨V',h,_⟩:=foldO_ex (f:=elimR n k (ent V k k) last) (n:=n-k-1) (a:=V)
    (fun m V'=>Sq n V'∧∀ a c,¬ ((k<a∧a<k+1+m)∧k<c)→ent V' a c=ent V a c) ⟨hq,fun a c _=>rfl⟩ (by
      rintro m V1 hm ⟨h1,h2⟩
      have hi:k+1+m<n:=by omega
      obtain ⟨V2,h3,h4,h5⟩:=foldO_ex (f:=elimE n k (ent V k k) last (k+1+m)) (n:=n-k-1) (a:=V1)
        (fun t V'=>Sq n V'∧∀ a c,¬ (a=k+1+m∧k<c∧c<k+1+t)→ent V' a c=ent V1 a c) ⟨h1,fun a c _=>rfl⟩ (by
          rintro t V3 ht ⟨g1,g2⟩
          have hj:k+1+t<n:=by omega
          refine ⟨setE V3 (k+1+m) (k+1+t) ((ent V k k*ent V (k+1+m) (k+1+t)-ent V (k+1+m) k*ent V k (k+1+t)).tdiv last),?_,sq_setE g1 hi,fun a c hac=>?_⟩
          · unfold elimE
            rw [g2 _ _ (by omega),g2 _ _ (by omega),g2 _ _ (by omega),h2 _ _ (by omega),h2 _ _ (by omega),h2 _ _ (by omega)]
            rw [bigMul_s (hb _ _ hk hk) (hb _ _ hi hj) (by omega),Option.bind_some,bigMul_s (hb _ _ hi hk) (hb _ _ hk hj) (by omega),Option.bind_some,
              bigSub_s (bd_mul (hb _ _ hk hk) (hb _ _ hi hj)) (bd_mul (hb _ _ hi hk) (hb _ _ hk hj)) (by omega),Option.bind_some,bigQuo_s (st _ _ hi hj) (bd_mono hla (by omega)) h0 hl,Option.bind_some]
          · rw [ent_setE2 g1 hi hj (by omega)]
            exact g2 a c (by omega))
      refine ⟨V2,h3,h4,fun a c hac=>?_⟩
      rw [h5 a c (by omega)]
      exact h2 a c (by omega))
  refine ⟨V',h,fun i j hi hj=>?_⟩
  rw [(elimT_ent hq hk h).2 i j hi hj]
  split
  · exact bd_quo (st i j hi hj)
  · exact bd_mono (hb i j hi hj) (by omega)
theorem signsGo_some {n:Nat} {A:Nat→Nat→Rat} {lim:Nat}:∀ {r k b:Nat} {V:Mt} {last:Int} {be ab:Nat},r+k=n→Sq n V→Inv n A k (ent V) last be ab→Bd n V b→last.natAbs<2^b→(b+6)*2^r≤34359738368→∀ x y,∃ res,signsGo n r k V last x y=some res
  | 0,k,b,V,last,be,ab,hr,hq,hI,hb,hla,hl,x,y=>⟨_,rfl⟩
  | r+1,k,b,V,last,be,ab,hr,hq,hI,hb,hla,hl,x,y=>by
    have hp:1≤2^r:=Nat.one_le_two_pow
    have hl2:(b+6)*2*2^r≤34359738368:=by rw [Nat.pow_succ,Nat.mul_comm (2^r) 2,← Nat.mul_assoc] at hl;exact hl
    have hl3:(b+6)*2≤34359738368:=Nat.le_trans (Nat.le_mul_of_pos_right _ hp) hl2
    obtain ⟨ok,V2,h1,b1⟩:=pivotT_some hq (show k<n by omega) hb (by omega)
    obtain ⟨q2,I2,z0,z1⟩:=pivotT_inv hq (by omega) hI h1
    unfold signsGo
    rw [h1,Option.bind_some]
    dsimp only
    cases ok with
    | false=>exact ⟨_,rfl⟩
    | true=>
      rw [cT]
      have hl0:=I2.last_ne
      obtain ⟨V3,hel,b3⟩:=elimT_some q2 (show k<n by omega) b1 hl0 (bd_mono hla (by omega)) (by omega)
      rw [hel,Option.bind_some]
      obtain ⟨q3,e3⟩:=elimT_ent q2 (by omega) hel
      obtain ⟨s1,s2⟩:=I2.step (by omega) (z1 rfl)
      have I3:=s2 (ent V3) (fun i j c1 c2 c3 c4=>by
        rw [e3 i j c2 c4,if_pos ⟨c1,c3⟩]
        unfold elF
        obtain ⟨z,hz⟩:=s1 i j c1 c2 c3 c4
        rw [hz,Int.mul_tdiv_cancel_left _ hl0])
      have go:=fun x y=>signsGo_some (lim:=lim) (r:=r) (k:=k+1) (b:=2*(b+2)+2) (by omega) q3 I3 (b3.mono (by omega)) (bd_mono (b1 k k (by omega) (by omega)) (by omega)) (by
        rw [show 2*(b+2)+2+6=(b+6)*2 by omega];exact hl2) x y
      cases sgn (ent V2 k k)==sgn last with
      | true=>exact go _ _
      | false=>exact go _ _
theorem signsT_some {n b:Nat} {V:Mt} (hq:Sq n V) (hs:∀ i j,ent V i j=ent V j i) (hb:Bd n V b) (h1:1≤b) (hl:(b+6)*2^n≤34359738368):∃ res,signsT n V=some res:=
  signsGo_some (lim:=0) (r:=n) (k:=0) (by omega) hq (Inv.init hs) hb (bd_mono (b:=1) (by decide) h1) hl _ _
end Go.Eng
