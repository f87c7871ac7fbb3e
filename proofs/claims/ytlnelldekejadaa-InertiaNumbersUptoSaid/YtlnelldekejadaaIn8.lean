/-
  The law InertiaNumbers: a diagonal of 48 rows. No condition.
-/
import Derived.Test.YtlnelldekejadaaIn4
set_option linter.all false
set_option maxRecDepth 100000
set_option maxHeartbeats 4000000
namespace Go.Eng
open Go Go.Ine
structure DgS (n:Nat) (V:Mt):Prop where
  sq:Sq n V
  off:∀ i j,i<n→j<n→i≠j→ent V i j=0
  on:∀ i,i<n → -1≤ent V i i∧ent V i i≤1
theorem DgS.bd {n:Nat} {V:Mt} (h:DgS n V):Bd n V 1:=fun i j hi hj=>by
  by_cases c:i=j
  · subst c
    have:=h.on i hi
    rw [Nat.pow_one];omega
  · rw [h.off i j hi hj c];decide
theorem swp_inj {a b i j:Nat} (h:swp a b i=swp a b j):i=j:=by
  unfold swp at h
  repeat' split at h
  all_goals omega
theorem DgS.swap {n a b:Nat} {V:Mt} (h:DgS n V) (ha:a<n) (hb:b<n):DgS n (swC a b n (swR V a b)):=by
  have e:∀ i j,i<n→j<n→ent (swC a b n (swR V a b)) i j=ent V (swp a b i) (swp a b j):=fun i j hi hj=>by
    rw [swC_ent (sq_swR h.sq ha hb) ha hb hi,swR_ent h.sq ha hb]
  refine ⟨sq_swC (sq_swR h.sq ha hb) (Nat.le_refl _),fun i j hi hj hne=>?_,fun i hi=>?_⟩
  · rw [e i j hi hj]
    exact h.off _ _ (swp_lt ha hb hi) (swp_lt ha hb hj) fun c=>hne (swp_inj c)
  · rw [e i i hi hi]
    exact h.on _ (swp_lt ha hb hi)
theorem DgS.pivot {n k:Nat} {V:Mt} (h:DgS n V) (hk:k<n):∃ ok V',pivotT n V k=some (ok,V')∧DgS n V'∧(ok=true→ent V' k k≠0):=by
  unfold pivotT
  cases hf:findT n V k with
  | none=>exact ⟨false,V,rfl,h,fun c=>by cases c⟩
  | some pq=>
    obtain ⟨row,col⟩:=pq
    have hin:=findT_in (by omega) hf
    dsimp only
    have hrc:row=col:=by
      rcases findT_some hf with ⟨c,_⟩ | ⟨c,hne,_⟩
      · exact c
      · exact absurd (h.off row col (by omega) (by omega) (by omega)) hne
    subst hrc
    have hnz:ent V row row≠0:=by
      rcases findT_some hf with ⟨_,c⟩ | ⟨c,_⟩
      · exact c
      · omega
    rw [decide_eq_false (by omega),cF]
    refine ⟨true,_,rfl,h.swap hk hin.2.2,fun _=>?_⟩
    rw [swC_ent (sq_swR h.sq hk hin.2.2) hk hin.2.2 hk,swR_ent h.sq hk hin.2.2,swp_l]
    exact hnz
theorem DgS.elim {n k:Nat} {V:Mt} {last:Int} (h:DgS n V) (hk:k<n) (hl:last=1∨last = -1) (hp:ent V k k≠0):∃ V',elimT n k (ent V k k) last V=some V'∧DgS n V':=by
  obtain ⟨V',h1,_⟩:=elimT_some (b:=1) h.sq hk h.bd (show last≠0 by omega) (by rw [Nat.pow_one];omega) (by omega)
  obtain ⟨q,e⟩:=elimT_ent h.sq hk h1
  have hp1:=h.on k hk
  refine ⟨V',h1,q,fun i j hi hj hne=>?_,fun i hi=>?_⟩
  · rw [e i j hi hj]
    split
    · rename_i c
      unfold elF
      rw [h.off i j hi hj hne,h.off i k hi hk (by omega),Int.mul_zero,Int.zero_mul,Int.sub_zero,Int.zero_tdiv]
    · exact h.off i j hi hj hne
  · rw [e i i hi hi]
    split
    · rename_i c
      unfold elF
      rw [h.off i k hi hk (by omega),Int.zero_mul,Int.sub_zero]
      have:=h.on i hi
      have hc:ent V k k=1∨ent V k k = -1:=by omega
      have hc2:ent V i i=1∨ent V i i = -1∨ent V i i=0:=by omega
      rcases hc with c1 | c1<;>rcases hc2 with c2 | c2 | c2<;>rcases hl with rfl | rfl<;>rw [c1,c2]<;>decide
    · exact h.on i hi
theorem DgS.go {n:Nat}:∀ {r k:Nat} {V:Mt} {last:Int},r+k=n→DgS n V→(last=1∨last = -1)→∀ x y,∃ res,signsGo n r k V last x y=some res
  | 0,k,V,last,hr,hV,hl,x,y=>⟨_,rfl⟩
  | r+1,k,V,last,hr,hV,hl,x,y=>by
    obtain ⟨ok,V2,h1,d2,hp⟩:=hV.pivot (show k<n by omega)
    unfold signsGo
    rw [h1,Option.bind_some]
    dsimp only
    cases ok with
    | false=>exact ⟨_,rfl⟩
    | true=>
      obtain ⟨V3,h3,d3⟩:=d2.elim (show k<n by omega) hl (hp rfl)
      rw [cT,h3,Option.bind_some]
      have hp0:=hp rfl
      have hon:=d2.on k (by omega)
      have hl2:ent V2 k k=1∨ent V2 k k = -1:=by omega
      cases sgn (ent V2 k k)==sgn last with
      | true=>exact DgS.go (by omega) d3 hl2 _ _
      | false=>exact DgS.go (by omega) d3 hl2 _ _
def d3 (p:Nat):Int:=(p%3:Nat)-1
def dy3 (p:Nat):Dy:=if p%3=0 then (true,[1],0) else if p%3=1 then (false,[],0) else (false,[1],0)
theorem dy3_gd (p:Nat):GdD (dy3 p)∧zD (dy3 p).1 (dy3 p).2.1=d3 p∧(dy3 p).2.2=0:=by
  have h1:([1]:List Int)=LW 1:=by decide +kernel
  have hb:blN 1≤16384:=by decide +kernel
  unfold dy3 d3
  split
  · rename_i h
    exact ⟨.inr ⟨1,by decide,h1,by decide,by decide,hb⟩,by rw [h];rfl,rfl⟩
  · split
    · rename_i h
      exact ⟨.inl ⟨rfl,rfl,rfl⟩,by rw [h];rfl,rfl⟩
    · have:p%3=2:=by omega
      exact ⟨.inr ⟨1,by decide,h1,by decide,by decide,hb⟩,by rw [this];rfl,rfl⟩
theorem dy3_t (p:Nat) (hp:p<48):T_r02_Int (IntKind.i64.wrap (((p:Int).tmod 3)-1))=some (dy3 p):=by
  have e:IntKind.i64.wrap (((p:Int).tmod 3)-1)=d3 p:=by
    have:(p:Int).tmod 3=((p%3:Nat):Int):=rfl
    rw [this,wrI (by omega) (by omega)];rfl
  rw [e]
  have hc:p%3=0∨p%3=1∨p%3=2:=by omega
  unfold d3 dy3
  rcases hc with h | h | h
  · rw [h];decide +kernel
  · rw [h];decide +kernel
  · rw [h];decide +kernel
def L48 (k:Nat) (m:List Dy):Prop:=m.length=2304∧∀ i j,i<48→j<48→m.getD (i*48+j) (false,[],0)=if i=j∧i<k then dy3 i else (false,[],0)
theorem idx48 {i j p q:Nat} (hj:j<48) (hq:q<48) (h:i*48+j=p*48+q):i=p∧j=q:=by omega
theorem loop48:∃ m,iter T_w16_InertiaNumbers_b2 FU (0,List.replicate 2304 (false,[],0))=some m∧L48 48 m:=by
  refine iter_ex (b:=T_w16_InertiaNumbers_b2) (fun k (s:Int×List Dy)=>s.1=(k:Int)∧L48 k s.2) (L48 48) 48 (by rw [FU_eq];omega) (fun k s hk hs=>?_) ⟨rfl,by rw [List.length_replicate],fun i j hi hj=>by
    rw [if_neg (by omega),List.getD_eq_getElem?_getD,List.getElem?_replicate,if_pos (by omega)];rfl⟩
  obtain ⟨a,m⟩:=s
  obtain ⟨h1,h2,h3⟩:=hs
  dsimp only at h1 h2 h3
  subst h1
  unfold T_w16_InertiaNumbers_b2
  dsimp only
  by_cases hk2:k<48
  · have e:IntKind.i64.wrap (49*(k:Int))=((k*48+k:Nat):Int):=by rw [wrI (by omega) (by omega)];omega
    rw [cond_t (by simp;omega),dy3_t k hk2,Option.bind_some]
    rw [e,at_nat (by omega),Option.bind_some,Option.bind_some,wrU (by omega),Int.toNat_natCast]
    refine .inr ⟨hk2,_,rfl,rfl,by dsimp only;rw [List.length_set];exact h2,fun i j hi hj=>?_⟩
    show (m.set (k*48+k) (dy3 k)).getD (i*48+j) (false,[],0)=_
    by_cases c:i*48+j=k*48+k
    · obtain ⟨rfl,rfl⟩:=idx48 hj hk2 c
      rw [List.getD_eq_getElem?_getD,List.getElem?_set_self (by omega),if_pos (by omega)];rfl
    · rw [List.getD_eq_getElem?_getD,List.getElem?_set_ne (by omega),← List.getD_eq_getElem?_getD,h3 i j hi hj]
      by_cases g:i=j∧i<k
      · rw [if_pos g,if_pos (by omega)]
      · rw [if_neg g,if_neg (by omega)]
  · rw [cond_f (by simp;omega)]
    obtain rfl:k=48:=by omega
    exact .inl ⟨_,rfl,h2,h3⟩
theorem L48.sym {m:List Dy} (h:L48 48 m):SymD 48 m∧∀ i j,i<48→j<48→nDD (m.getD (i*48+j) (false,[],0))=(if i=j then d3 i else 0)*((2^((0:Int)+65536).toNat:Nat):Int):=by
  have val:∀ i j,i<48→j<48→nDD (m.getD (i*48+j) (false,[],0))=(if i=j then d3 i else 0)*((2^((0:Int)+65536).toNat:Nat):Int):=fun i j hi hj=>by
    rw [h.2 i j hi hj]
    by_cases c:i=j
    · rw [if_pos ⟨c,hi⟩,if_pos c]
      obtain ⟨_,e1,e2⟩:=dy3_gd i
      unfold nDD nD
      rw [e1,e2]
    · rw [if_neg (by omega),if_neg c,nDD_nil,Int.zero_mul]
  refine ⟨⟨by decide,h.1,fun d hd=>?_,fun i j hi hj=>?_⟩,val⟩
  · obtain ⟨k,hk,rfl⟩:=List.mem_iff_getElem.1 hd
    have hl:=h.1
    have:=h.2 (k/48) (k%48) (by omega) (by omega)
    rw [show k/48*48+k%48=k by omega,List.getD_eq_getElem?_getD,List.getElem?_eq_getElem hk,Option.getD_some] at this
    rw [this]
    split
    · exact (dy3_gd _).1
    · exact .inl ⟨rfl,rfl,rfl⟩
  · rw [val i j hi hj,val j i hj hi]
    by_cases c:i=j
    · subst c;rfl
    · rw [if_neg c,if_neg (fun e=>c e.symm)]
theorem signs48 {m:List Dy} (h:L48 48 m):T_inertia_Signs 48 48 m=some (16,16,16,0):=by
  obtain ⟨hS,val⟩:=h.sym
  obtain ⟨V,low,ok,h1,h2⟩:=scaled_t (x:=(false,[],0)) hS.le hS.len hS.gd (.inl ⟨rfl,rfl,rfl⟩)
  generalize hK:((0:Int)+65536).toNat=K at val
  have hA:∀ i j,i<48→j<48→aD 48 m (false,[],0) i j=(if i=j then d3 i else 0)*((2^K:Nat):Int):=fun i j hi hj=>by
    unfold aD
    rw [val i j hi hj,nDD_nil]
    split<;>simp
  have dle:∀ i:Nat, -1≤d3 i∧d3 i≤1:=fun i=>by unfold d3;omega
  have hP:=Nat.two_pow_pos K
  have key:(∀ i j,i<48→j<48→ent V i j=if i=j then d3 i else 0)∧ok=true:=by
    rcases h2.2 with ⟨z,_⟩ | ⟨t,M,_,_,_,e1,⟨p,q,hp,hq,ho⟩,e3,⟨p',q',hp',hq',hM⟩,e5⟩
    · have:=(z 0 0 (by decide) (by decide)).1
      rw [hA 0 0 (by decide) (by decide)] at this
      have h0:(if (0:Nat)=0 then d3 0 else 0) = -1:=rfl
      rw [h0] at this
      omega
    · have hle:K≤t:=odd_t ((e1 p q hp hq).symm.trans (hA p q hp hq)) ho
      have hge:t≤K:=by
        have a:=e1 0 0 (by decide) (by decide)
        rw [hA 0 0 (by decide) (by decide)] at a
        exact odd_t a (by decide)
      obtain rfl:t=K:=by omega
      have hV:∀ i j,i<48→j<48→ent V i j=if i=j then d3 i else 0:=fun i j hi hj=>pow_cancel ((e1 i j hi hj).symm.trans (hA i j hi hj))
      refine ⟨hV,?_⟩
      rw [e5,decide_eq_true_iff,← hM,hV p' q' hp' hq']
      have:blN ((if p'=q' then d3 p' else 0:Int)).natAbs≤1:=by
        refine blN_le.2 ?_
        have:=dle p'
        rw [Nat.pow_one]
        split<;>omega
      omega
  obtain ⟨hV,rfl⟩:=key
  have hD:DgS 48 V:=⟨h2.1,fun i j hi hj hne=>by rw [hV i j hi hj,if_neg hne],fun i hi=>by rw [hV i i hi hi,if_pos rfl];exact dle i⟩
  obtain ⟨res,hr⟩:=DgS.go (n:=48) (r:=48) (k:=0) (last:=1) rfl hD (.inl rfl) 0 0
  have hr:signsT 48 V=some res:=hr
  have hs:∀ i j,ent V i j=ent V j i:=fun i j=>by
    by_cases c:i<48∧j<48
    · rw [hV i j c.1 c.2,hV j i c.2 c.1]
      by_cases g:i=j
      · subst g;rfl
      · rw [if_neg g,if_neg (fun e=>g e.symm)]
    · rw [ent_out h2.1 c,ent_out h2.1 (fun d=>c ⟨d.2,d.1⟩)]
  obtain ⟨B,T,Ab,rfl,g1,g2⟩:=signsT_sig h2.1 hs hr
  have hd:=Sig.diag 48 (fun i=>((d3 i:Int):Rat))
  obtain ⟨b1,b2⟩:=Sig.law (g2.ext fun i j hi hj=>by
    show (if i=j then ((d3 i:Int):Rat) else 0)=((ent V i j:Int):Rat)
    rw [hV i j hi hj]
    split<;>rfl) hd
  have c1:cntN 48 (fun i=>((d3 i:Int):Rat))=16:=by decide +kernel
  have c2:cntP 48 (fun i=>((d3 i:Int):Rat))=16:=by decide +kernel
  rw [c1] at b1
  rw [c2] at b2
  subst b1 b2
  obtain rfl:T=16:=by omega
  unfold T_inertia_Signs signsDo
  have hsy:T_inertia_Symmetric 48 48 m=some true:=hS.t
  have hsq:sqG 48 48 m=true:=hS.sq
  rw [hsy,Option.bind_some,nT,hsq,cT]
  have h48:(48:Int).toNat=48:=rfl
  rw [h48,h1,Option.bind_some,nT,hr]
  rfl
end Go.Eng
