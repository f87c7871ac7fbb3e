/-
  inertia's rows: signs. No condition.
-/
import Derived.Test.YtlnelldekejadaaGreatMx5
import Derived.Test.YtlnelldekejadaaGreatWk
set_option linter.all false
set_option maxRecDepth 100000
set_option maxHeartbeats 4000000
open List renaming getD_eq_getElem?_getD→AA,getElem?_set_ne→AB,mem_cons_of_mem→AC,getElem?_set_self→AG,getElem?_map→AI
open Int renaming toNat_natCast→AD
open Nat renaming le_refl→AE,add_sub_cancel→AH
open Option renaming bind_some→AF
namespace Go.Eng
open Go
section
variable {I E tL tO tR q:Nat} {O:Hd} {low:Value} {M:List Rw} {L:List It} {w0 w:World} {i j:Nat} {x:Rw} {d d':BgD} {y z:It}
theorem Br7:(y::An9 I E tL tO tR q O low M L).Perm (An9 I E tL tO tR q O low M (y::L)):=by
 unfold An9
 refine (List.Perm.swap _ _ _).trans (.cons _ ((List.Perm.swap _ _ _).trans (.cons _ ?_)))
 exact List.perm_middle.symm
theorem Ho.mxPush (hS:Ho w0 w (y::An9 I E tL tO tR q O low M L)):Ho w0 w (An9 I E tL tO tR q O low M (y::L)):=hS.perm Br7
theorem Ho.mxPop (hS:Ho w0 w (An9 I E tL tO tR q O low M (y::L))):Ho w0 w (y::An9 I E tL tO tR q O low M L):=hS.perm Br7.symm
theorem Ho.mxFlip (hS:Ho w0 w (y::An9 I E tL tO tR q O low M (z::L))):Ho w0 w (z::An9 I E tL tO tR q O low M (y::L)):=
 hS.perm (((Br7 (y:=z)).symm.cons y).trans ((List.Perm.swap _ _ _).trans (Br7.cons z)))
theorem Ax6 (h:y∈L):y∈An9 I E tL tO tR q O low M L:=AC _ (AC _ (List.mem_append_right _ h))
theorem Eh8 {a:Addr} (hS:Ho w0 w (An9 I E tL tO tR q O low M L)) (hx:M[i]?=some x) (ha:O.1=some a):w.cell? (a.add (((i:Nat):Int).toNat*1))=some (.slice x.1.1 x.1.2.1 x.1.2.2):=
 Bv7 hS.mxOr ha (by rw [AD,AI,hx];rfl)
theorem Fn0 {b:Addr} (hS:Ho w0 w (An9 I E tL tO tR q O low M L)) (hx:M[i]?=some x) (hd:x.2[j]?=some d) (hb:x.1.1=some b):w.cell? (b.add (((j:Nat):Int).toNat*1))=some (.pointer (some ⟨d.r,0,none⟩)):=
 Ab8 (enc:=Bk3) (hS.mxRr hx) hb (by rw [AD,AI,hd];rfl)
theorem Ho.mxNew2 (hx:M[i]?=some x) (hd:x.2[j]?=some d) (hS:Ho w0 w (sl x.1.1 x.1.2.1 x.1.2.2 (((x.2.map BgD.r).set j d'.r).map Bk3) tL::(cl q [.slice O.1 O.2.1 O.2.2,low] tR::mxO tO O M::((x.2.map (bgI I E)++mxR I E tL (M.eraseIdx i))++(bg I E d'.r d'.a d'.n d'.c d'.z::L))))):Ho w0 w (An9 I E tL tO tR q O low (M.set i (x.1,x.2.set j d')) L):=by
 refine Ho.mxNew (hS.perm (.cons _ ?_)) hx hd
 refine ((List.perm_middle.cons _).cons _).trans ?_
 exact ((List.Perm.swap _ _ _).cons _).trans (.swap _ _ _)
end
theorem Fu8 {M:List Rw} {i j:Nat} {x:Rw} {d:BgD} (hx:M[i]?=some x) (hd:x.2[j]?=some d):pt M i j=some d.r:=by
 unfold pt;rw [hx,AF,hd];rfl
theorem Gh7 {M:List Rw} {i j:Nat} {x:Rw} {d':BgD} (hx:M[i]?=some x) {a b:Nat} (h:a≠i∨b≠j):pt (M.set i (x.1,x.2.set j d')) a b=pt M a b:=by
 unfold pt
 by_cases e:a=i
 · subst e
   rw [AG (By7 hx),hx,AF,AF,AB (by omega)]
 · rw [AB (by omega)]
def Fq6 (n at_:Nat) (p last:Int) (i:Nat) (j':Nat) (V:Mt):Option Mt:=
 (Bt7 p (ent V i (at_+1+j'))).bind fun x=>(Bt7 (ent V i at_) (ent V at_ (at_+1+j'))).bind fun y=>(Ct9 x y).bind fun z=>(Cj0 z last).bind fun v=>some (Cd5 V i (at_+1+j') v)
def Ge5 (n at_:Nat) (p last:Int) (i':Nat):Mt→Option Mt:=Al1 (Fq6 n at_ p last (at_+1+i')) (n-at_-1)
def Ge9 (n at_:Nat) (p last:Int):Mt→Option Mt:=Al1 (Ge5 n at_ p last) (n-at_-1)
def sgn (z:Int):Int:=if z<0 then -1 else if z=0 then 0 else 1
def Bo8 (n:Nat):Nat→Nat→Mt→Int→Int→Int→Option (Int×Int×Int)
 | 0,_,_,_,b,a=>some (b,0,a)
 | k+1,at_,V,last,b,a=>(Bp2 n V at_).bind fun o=>cond o.1
  ((Ge9 n at_ (ent o.2 at_ at_) last o.2).bind fun V2=>cond (sgn (ent o.2 at_ at_)==sgn last) (Bo8 n k (at_+1) V2 (ent o.2 at_ at_) b (a+1)) (Bo8 n k (at_+1) V2 (ent o.2 at_ at_) (b+1) a))
  (some (b,((n-at_:Nat):Int),a))
def Bm7 (n:Nat) (V:Mt):Option (Int×Int×Int):=Bo8 n n 0 V 1 0 0
def Ec2 (M:List Rw) (k rl a:Nat) (last:Int):Prop:=(k=0∧rl=a∧last=1)∨(0<k∧pt M (k-1) (k-1)=some rl∧ent (vals M) (k-1) (k-1)=last)
theorem Ec2.ent {N:Nums} {q:Nat} {O:Hd} {low:Value} {M:List Rw} {L:List It} {n k rl b f g:Nat} {a0:Option Addr} {last:Int} (h:Ec2 M k rl b last) (hq:Sq n (vals M)) (hk:k≤n) (hL:bg N.Hr0 N.Hq9 b a0 f g 1∈L):∃ (a:Option Addr) (m c:Nat),Ent (MQ N q O low M L) (bgR N.Hr0 rl a m c last):=by
 rcases h with ⟨rfl,rfl,rfl⟩ | ⟨o,e,l⟩
 · exact ⟨_,_,_,Ent.bg (Ax6 hL)⟩
 · obtain ⟨x,d,hx,hd,hz,_⟩:=Ax5 hq (i:=k-1) (j:=k-1) (by omega) (by omega)
   rw [Fu8 hx hd] at e
   obtain rfl:=Option.some.inj e
   rw [← l,← hz]
   exact ⟨_,_,_,Ent.mxBg hx hd⟩
theorem Bi4 {n:Nat} {V:Mt} (h:Sq n V) {i j a b:Nat} {y:Int} (hi:i<n) (hj:j<n) (hne:a≠i∨b≠j):ent (Cd5 V i j y) a b=ent V a b:=by
 rw [Br1 h hi hj,if_neg (by omega)]
end Go.Eng
/-
  inertia's rows: signs, walked. No condition.
-/
namespace Go.Eng
open Go
theorem Cp8 {α:Type} {f:Nat→α→Option α} (Q:α→Prop):∀ {n:Nat} {a b:α},Al1 f n a=some b→Q a→(∀ k c d,k<n→Q c→f k c=some d→Q d)→Q b
 | 0,a,b,h,e,_=>by obtain rfl:=Option.some.inj h;exact e
 | n+1,a,b,h,e,hs=>by
   obtain ⟨c,g,l⟩:=bnd (show (Al1 f n a).bind (f n)=some b from h)
   exact hs n c b (by omega) (Cp8 Q g e fun k c d hk=>hs k c d (by omega)) l
theorem Bu8 {V:Mt} {i a b:Nat} {l:List Int} (h:a≠i):ent (V.set i l) a b=ent V a b:=by
 unfold ent
 rw [AA (l:=V.set _ _),AB (by omega),← AA]
theorem Ej7 {n:Nat} {V:Mt} (h:Sq n V) {a b i j:Nat} (ha:j≠a) (hb:j≠b):∀ {k:Nat},k≤n→ent (swC a b k V) i j=ent V i j
 | 0,_=>rfl
 | k+1,hk=>by
   have ih:=Ej7 h (a:=a) (b:=b) (i:=i) ha hb (k:=k) (by omega)
   have hq:=Eo4 h (a:=a) (b:=b) (k:=k) (by omega)
   show ent ((swC a b k V).set k (swL ((swC a b k V).getD k []) a b)) i j=_
   by_cases e:i=k
   · subst e
     rw [← ih]
     unfold ent
     have hl:i<(swC a b i V).length:=by rw [hq.1];omega
     rw [AA (l:=List.set _ _ _),AG hl,Option.getD_some]
     unfold swL
     rw [AA,AB (by omega),AB (by omega),← AA]
   · rw [Bu8 e,ih]
theorem Et9 {n row col:Nat} {V V':Mt} (hq:Sq n V) (hr:row<n) (h:Dm5 n row col V=some V'):Sq n V'∧∀ i j,i≠row→ent V' i j=ent V i j:=by
 refine Cp8 (fun W=>Sq n W∧∀ i j,i≠row→ent W i j=ent V i j) h ⟨hq,fun _ _ _=>rfl⟩ ?_
 rintro k c d hk ⟨a,b⟩ e
 obtain ⟨y,_,f⟩:=bnd e
 obtain rfl:=Option.some.inj f
 exact ⟨At3 a hr,fun i j hi=>by rw [Bi4 a hr hk (.inl hi)];exact b i j hi⟩
theorem Ew5 {n row col:Nat} {V V':Mt} (hq:Sq n V) (hr:row<n) (h:Dl6 n row col V=some V'):Sq n V'∧∀ i j,j≠row→ent V' i j=ent V i j:=by
 refine Cp8 (fun W=>Sq n W∧∀ i j,j≠row→ent W i j=ent V i j) h ⟨hq,fun _ _ _=>rfl⟩ ?_
 rintro k c d hk ⟨a,b⟩ e
 obtain ⟨y,_,f⟩:=bnd e
 obtain rfl:=Option.some.inj f
 exact ⟨At3 a hk,fun i j hi=>by rw [Bi4 a hk hr (.inr hi)];exact b i j hi⟩
theorem Eh5 {n at_:Nat} {V V':Mt} {b:Bool} (hq:Sq n V) (ha:at_<n) (h:Bp2 n V at_=some (b,V')):∀ i j,i<at_→j<at_→ent V' i j=ent V i j:=by
 intro i j hi hj
 unfold Bp2 at h
 split at h
 · have h:=Option.some.inj h
   cases h;rfl
 · rename_i row col hf
   obtain ⟨l,m,a⟩:=Cn8 (Nat.le_of_lt ha) hf
   obtain ⟨V1,hV1,h⟩:=bnd h
   have h:=Option.some.inj h
   cases h
   have key:Sq n V1∧ent V1 i j=ent V i j:=by
    by_cases e:row=col
    · rw [decide_eq_false (by omega),cF] at hV1
      obtain rfl:=Option.some.inj hV1
      exact ⟨hq,rfl⟩
    · rw [decide_eq_true e,cT] at hV1
      obtain ⟨V2,hV2,hV1⟩:=bnd hV1
      obtain ⟨c,f⟩:=Et9 hq a hV2
      obtain ⟨g,k⟩:=Ew5 c a hV1
      exact ⟨g,by rw [k i j (by omega),f i j (by omega)]⟩
   rw [Ej7 (Dp8 key.1 ha a) (by omega) (by omega) (AE n)]
   unfold swR
   rw [Bu8 (by omega),Bu8 (by omega)]
   exact key.2
section
variable {N:Nums} {P:Program} (H:AllOk N P)
include H
theorem Eq6 {w0 w:World} {L:List It} {q:Nat} {O:Hd} {low:Value} {M:List Rw} {n:Nat} {res:Int×Int×Int} (hq:Sq n (vals M)) (hn:n≤1073741824) (hx:Bm7 n (vals M)=some res)
 (hS:Ho w0 w (MQ N q O low M L)) {K:Value→World→Prop}
 (hK:∀ w1:World,Ho w0 w1 L→K (.agg #[.int .i64 res.1,.int .i64 res.2.1,.int .i64 res.2.2]) w1) :
 Aa1 P N.Hg3 #[.pointer (some ⟨q,0,none⟩)] w K:=by
 refine H.p_inertia_rows_signs _ w _ ?_
 unfold Aw9
 refine Ab2 hS ?_
 clear hS;intro c w hS
 replace hS:=hS.mxPush
 refine Ac0 ⟨_,_,_,hS.mxHd,?_⟩
 have hO:=hS.mxLen
 have hMl:M.length=n:=by rw [← An4];exact hq.1
 rw [hO,hMl]
 refine Bp1 H hS (u0:=1) (by decide) ?_
 clear hS;intro e a0 u v w hS
 refine ⟨_,rfl,?_⟩
 replace hS:=hS.mxFlip.mxPush
 refine Ab2 hS ?_
 clear hS;intro g w hS
 replace hS:=hS.mxPush
 -- the end, in any of two ways
 have fin:∀ (M1:List Rw) (X:List It) (w:World),Ho w0 w (MQ N q O low M1 (cl g [.int .i64 res.1,.int .i64 res.2.1,.int .i64 res.2.2] N.Hs2::cl c [.int .i64 0,.int .i64 0,.int .i64 0] N.Hs2::bg N.Hr0 N.Hq9 e a0 u v 1::L)) →
  (∃ am:Int,w.cell? ⟨g,0,none⟩=some (.int .i64 am) ∧
   ∃ an:Int,w.cell? ((⟨g,0,none⟩:Addr).add 1)=some (.int .i64 an) ∧
   ∃ ao:Int,w.cell? ((⟨g,0,none⟩:Addr).add 2)=some (.int .i64 ao) ∧
   stM ⟨c,0,none⟩ (.int .i64 am) w fun a8=>
   stM ((⟨c,0,none⟩:Addr).add 1) (.int .i64 an) a8 fun a9=>
   stM ((⟨c,0,none⟩:Addr).add 2) (.int .i64 ao) a9 fun ae=>
   ∃ ap:Int,ae.cell? ⟨c,0,none⟩=some (.int .i64 ap) ∧
   ∃ aq:Int,ae.cell? ((⟨c,0,none⟩:Addr).add 1)=some (.int .i64 aq) ∧
   ∃ ar:Int,ae.cell? ((⟨c,0,none⟩:Addr).add 2)=some (.int .i64 ar) ∧
   K (.agg #[.int .i64 ap,.int .i64 aq,.int .i64 ar]) ae):=by
  intro M1 X w hS
  refine ⟨_,hS.cel (Ax6 mp0) rfl,_,hS.cel (Ax6 mp0) (i:=1) rfl,_,hS.cel (Ax6 mp0) (i:=2) rfl,?_⟩
  replace hS:=hS.mxPop.mxFlip
  refine Aa8 hS rfl rfl ?_;clear hS;intro w hS
  refine Aa8 hS rfl rfl ?_;clear hS;intro w hS
  refine Aa8 hS rfl rfl ?_;clear hS;intro w hS
  refine ⟨_,hS.cel mp0 rfl,_,hS.cel mp0 (i:=1) rfl,_,hS.cel mp0 (i:=2) rfl,?_⟩
  refine hK w (hS.sub ?_)
  refine .cons _ (.cons _ (.cons _ ?_))
  refine List.Sublist.trans ?_ (List.sublist_append_right _ _)
  exact .cons _ (.cons _ (List.Sublist.refl _))
 refine Aa9 (fun _ w=>∃ M1:List Rw,Ho w0 w (MQ N q O low M1 (cl g [.int .i64 res.1,.int .i64 res.2.1,.int .i64 res.2.2] N.Hs2::cl c [.int .i64 0,.int .i64 0,.int .i64 0] N.Hs2::bg N.Hr0 N.Hq9 e a0 u v 1::L))) (fun J hJ=>?_) ?_
 rotate_left
 · rintro s w ⟨M1,hS⟩
   exact fin M1 [] w hS
 refine As0 (fun k s w=>∃ (rl:Nat) (M1:List Rw) (last b a:Int),s=(some ⟨rl,0,none⟩,(k:Int),())∧Bo8 n (n-k) k (vals M1) last b a=some res∧Sq n (vals M1)∧Ec2 M1 k rl e last∧0≤b∧b≤k∧0≤a∧a≤k ∧
  Ho w0 w (MQ N q O low M1 (cl g [.int .i64 b,.int .i64 0,.int .i64 a] N.Hs2::cl c [.int .i64 0,.int .i64 0,.int .i64 0] N.Hs2::bg N.Hr0 N.Hq9 e a0 u v 1::L))) n
  ⟨e,M,1,0,0,rfl,hx,hq,.inl ⟨rfl,rfl,rfl⟩,by omega,by omega,by omega,by omega,hS⟩ ?_ ?_
 rotate_left
 · rintro s w X ⟨rl,M1,last,b,a,rfl,hg,af,hl,ab,ag,ac,ah,hS⟩
   dsimp only
   refine Ab7 (fun hc=>?_) (fun _=>?_)
   · simp at hc
   rw [Nat.sub_self] at hg
   have hg:=Option.some.inj (show some (b,(0:Int),a)=some res from hg)
   subst hg
   exact hJ _ _ ⟨M1,hS⟩
 rintro k s w X hk ⟨rl,M1,last,b,a,rfl,hg,af,hl,ab,ag,ac,ah,hS⟩ hX
 dsimp only
 refine Ab7 (fun _=>?_) (fun hc=>?_)
 rotate_left
 · simp at hc;omega
 rw [show n-k=(n-(k+1))+1 by omega] at hg
 obtain ⟨⟨ok,V2⟩,hpv,hg⟩:=bnd (show (Bp2 n (vals M1) k).bind _=some res from hg)
 refine Fo6 H af hn hk hpv hS ?_
 clear hS;intro M2 w ba ai bb hS
 refine ⟨_,rfl,?_⟩
 cases ok with
 | false=>
   have hg:=Option.some.inj (show some (b,((n-k:Nat):Int),a)=some res from hg)
   subst hg
   refine Ab7 (fun _=>?_) (fun hc=>?_)
   rotate_left
   · cases hc
   refine Aa8 hS.mxPop rfl rfl ?_;clear hS;intro w hS
   replace hS:=hS.mxPush
   rw [wrI (by omega) (by omega),show (n:Int)-(k:Int)=((n-k:Nat):Int) by omega] at hS
   exact fin M2 [] w hS
 | true=>
   have hkeep:=Eh5 af hk hpv
   dsimp only at hg
   rw [cT] at hg
   obtain ⟨V3,hel,hg⟩:=bnd hg
   subst ba
   refine Ab7 (fun hc=>?_) (fun _=>?_)
   · cases hc
   -- the pivot
   obtain ⟨x,dp,hxp,hdp,hzp,_⟩:=Ax5 ai (i:=k) (j:=k) hk hk
   have au:Ec2 M2 k rl e last:=by
    rcases hl with h | ⟨h1,h2,h3⟩
    · exact .inl h
    · exact .inr ⟨h1,by rw [bb _ _ (by omega) (by omega)];exact h2,by rw [hkeep _ _ (by omega) (by omega)];exact h3⟩
   refine Be9 hS hxp hdp rfl rfl ?_
   intro a1 b1 _ _
   refine Ao5 H hS (Ent.mxBg hxp hdp) rfl ?_
   clear hS;intro w hS
   refine ⟨_,rfl,?_⟩
   obtain ⟨al,ml,cl_,hle⟩:=au.ent (N:=N) (q:=q) (O:=O) (low:=low) (L:=cl g [.int .i64 b,.int .i64 0,.int .i64 a] N.Hs2::cl c [.int .i64 0,.int .i64 0,.int .i64 0] N.Hs2::bg N.Hr0 N.Hq9 e a0 u v 1::L) ai (by omega) mp2
   refine Ao5 H hS hle rfl ?_
   clear hS;intro w hS
   refine ⟨_,rfl,?_⟩
   rw [hzp]
   generalize hp:ent (vals M2) k k=p at *
   -- the count
   refine Aa9 (fun _ w=>∃ b' a':Int,Bo8 n (n-(k+1)) (k+1) V3 p b' a'=some res∧0≤b'∧b'≤k+1∧0≤a'∧a'≤k+1 ∧
    Ho w0 w (MQ N q O low M2 (cl g [.int .i64 b',.int .i64 0,.int .i64 a'] N.Hs2::cl c [.int .i64 0,.int .i64 0,.int .i64 0] N.Hs2::bg N.Hr0 N.Hq9 e a0 u v 1::L))) (fun J2 hJ2=>?_) ?_
   · refine Ab7 (fun hc=>?_) (fun hc=>?_)
     · refine ⟨_,hS.cel (Ax6 mp0) (i:=2) rfl,?_⟩
       refine Aa8 hS.mxPop rfl rfl ?_;clear hS;intro w hS
       replace hS:=hS.mxPush
       rw [wrI (by omega) (by omega)] at hS
       refine hJ2 _ _ ⟨b,a+1,?_,ab,by omega,by omega,by omega,hS⟩
       rw [show (sgn p==sgn last)=true from hc,cT] at hg
       exact hg
     · refine ⟨_,hS.cel (Ax6 mp0) (i:=0) rfl,?_⟩
       refine Aa8 hS.mxPop rfl rfl ?_;clear hS;intro w hS
       replace hS:=hS.mxPush
       rw [wrI (by omega) (by omega)] at hS
       refine hJ2 _ _ ⟨b+1,a,?_,by omega,by omega,ac,by omega,hS⟩
       rw [show (sgn p==sgn last)=false from hc,cF] at hg
       exact hg
   clear hg hS ab ag ac ah
   rintro s w ⟨b',a',hg,ab,ag,ac,ah,hS⟩
   generalize hLL:(cl g [.int .i64 b',.int .i64 0,.int .i64 a'] N.Hs2::cl c [.int .i64 0,.int .i64 0,.int .i64 0] N.Hs2::bg N.Hr0 N.Hq9 e a0 u v 1::L)=L2 at *
   have hone:bg N.Hr0 N.Hq9 e a0 u v 1∈L2:=by rw [← hLL];exact mp2
   -- what is kept of the matrix by the rounds
   refine Aa9 (fun _ w=>∃ M3:List Rw,vals M3=V3∧Sq n (vals M3)∧(∀ i j,i≤k∨j≤k→pt M3 i j=pt M2 i j∧ent (vals M3) i j=ent (vals M2) i j)∧Ho w0 w (MQ N q O low M3 L2)) (fun J3 hJ3=>?_) ?_
   rotate_left
   · rintro s w ⟨M3,bc,ad,aa,hS⟩
     subst bc
     refine hX _ _ ⟨dp.r,M3,p,b',a',?_,hg,ad,.inr ⟨by omega,?_,?_⟩,ab,by omega,ac,by omega,by rw [hLL];exact hS⟩
     · rw [wrU (by omega)]
     · rw [AH,(aa k k (.inl (AE _))).1];exact Fu8 hxp hdp
     · rw [AH,(aa k k (.inl (AE _))).2];exact hp
   have e1:IntKind.i64.wrap ((k:Int)+1)=((k+1+0:Nat):Int):=by rw [wrU (by omega)]
   rw [e1]
   refine As0 (fun m s w=>s=(((k+1+m:Nat):Int),())∧∃ M3:List Rw,Al1 (Ge5 n k p last) m (vals M2)=some (vals M3)∧Sq n (vals M3)∧(∀ i j,i≤k∨j≤k→pt M3 i j=pt M2 i j∧ent (vals M3) i j=ent (vals M2) i j)∧Ho w0 w (MQ N q O low M3 L2)) (n-k-1)
    ⟨rfl,M2,rfl,ai,fun _ _ _=>⟨rfl,rfl⟩,hS⟩ ?_ ?_
   rotate_left
   · rintro s w X ⟨rfl,M3,aj,ad,aa,hS⟩
     dsimp only
     refine Ab7 (fun hc=>?_) (fun _=>?_)
     · simp at hc;omega
     have:some (vals M3)=some V3:=aj.symm.trans hel
     exact hJ3 _ _ ⟨M3,Option.some.inj this,ad,aa,hS⟩
   rintro m s w X4 hm ⟨rfl,M3,aj,ad,aa,hS⟩ hX4
   dsimp only
   refine Ab7 (fun _=>?_) (fun hc=>?_)
   rotate_left
   · simp at hc;omega
   obtain ⟨V4,hrow,be⟩:=Ar5 hel hm aj
   refine Aa9 (fun _ w=>∃ M4:List Rw,vals M4=V4∧Sq n (vals M4)∧(∀ i j,i≤k∨j≤k→pt M4 i j=pt M2 i j∧ent (vals M4) i j=ent (vals M2) i j)∧Ho w0 w (MQ N q O low M4 L2)) (fun J5 hJ5=>?_) ?_
   rotate_left
   · rintro s w ⟨M4,bf,f,l,hS⟩
     subst bf
     refine hX4 _ _ ⟨?_,M4,be,f,l,hS⟩
     rw [wrU (by omega)];rfl
   refine As0 (fun t s w=>s=(((k+1+t:Nat):Int),())∧∃ M4:List Rw,Al1 (Fq6 n k p last (k+1+m)) t (vals M3)=some (vals M4)∧Sq n (vals M4)∧(∀ i j,i≤k∨j≤k→pt M4 i j=pt M2 i j∧ent (vals M4) i j=ent (vals M2) i j)∧Ho w0 w (MQ N q O low M4 L2)) (n-k-1)
    ⟨rfl,M3,rfl,ad,aa,hS⟩ ?_ ?_
   rotate_left
   · rintro s w X ⟨rfl,M4,ak,f,l,hS⟩
     dsimp only
     refine Ab7 (fun hc=>?_) (fun _=>?_)
     · simp at hc;omega
     have:some (vals M4)=some V4:=ak.symm.trans hrow
     exact hJ5 _ _ ⟨M4,Option.some.inj this,f,l,hS⟩
   rintro t s w X6 ht ⟨rfl,M4,ak,f,l,hS⟩ hX6
   dsimp only
   refine Ab7 (fun _=>?_) (fun hc=>?_)
   rotate_left
   · simp at hc;omega
   obtain ⟨V6,o,bh⟩:=Ar5 hrow ht ak
   obtain ⟨v1,av,o⟩:=bnd o
   obtain ⟨v2,aw,o⟩:=bnd o
   obtain ⟨v3,bi,o⟩:=bnd o
   obtain ⟨v4,bj,o⟩:=bnd o
   obtain rfl:=Option.some.inj o
   obtain ⟨xi,dij,hxi,hdij,hzij,_⟩:=Ax5 f (i:=k+1+m) (j:=k+1+t) (by omega) (by omega)
   obtain ⟨xi',dia,hxi',hdia,hzia,_⟩:=Ax5 f (i:=k+1+m) (j:=k) (by omega) (by omega)
   rw [hxi] at hxi';cases hxi'
   obtain ⟨xa,daj,hxa,hdaj,hzaj,_⟩:=Ax5 f (i:=k) (j:=k+1+t) (by omega) (by omega)
   obtain ⟨xp,az,a5,a6,bk,_⟩:=Ax5 f (i:=k) (j:=k) (by omega) (by omega)
   have hpr:az.r=dp.r:=by
    have h1:=(l k k (.inl (AE _))).1
    rw [Fu8 a5 a6,Fu8 hxp hdp] at h1
    exact Option.some.inj h1
   have hpz:az.z=p:=by rw [bk,(l k k (.inl (AE _))).2];exact hp
   rw [← hzij,← hpz] at av
   rw [← hzia,← hzaj] at aw
   -- x
   refine Ab2 hS ?_
   clear hS;intro rx w hS
   replace hS:=Ho.bgNew (E:=N.Hq9) hS
   replace hS:=hS.mxPush
   refine Be9 hS hxi hdij rfl rfl ?_
   intro a1 b1 _ _
   rw [← hpr]
   refine Bw5 H hS.mxPop (Ent.mxBg a5 a6) (Ent.mxBg hxi hdij) av ?_
   clear hS;intro ax nx cx w hS
   replace hS:=hS.mxPush
   refine ⟨_,rfl,?_⟩
   refine Be9 hS hxi hdia rfl rfl ?_
   intro a2 b2 bl bm
   refine Be9 hS hxa hdaj rfl rfl ?_
   intro a3 b3 bo bp
   refine Aa7 hS ?_;clear hS;intro w hS
   refine Ab2 hS ?_
   clear hS;intro ry w hS
   replace hS:=Ho.bgNew (E:=N.Hq9) hS
   replace hS:=hS.mxPush
   refine ⟨Fn0 hS hxa hdaj bp,Eh8 hS hxa bo,hS.mxHd,Fn0 hS hxi hdia bm,Eh8 hS hxi bl,hS.mxHd,?_⟩
   refine Aa7 hS ?_;clear hS;intro w hS
   refine Bw5 H hS.mxPop (Ent.mxBg hxi hdia) (Ent.mxBg hxa hdaj) aw ?_
   clear hS;intro ay ny cy w hS
   refine ⟨_,rfl,?_⟩
   refine Aa7 hS ?_;clear hS;intro w hS
   refine Ct3 H hS.mxFlip (Ent.bg (Ax6 mp0)) bi ?_
   clear hS;intro bw bx bz w hS
   replace hS:=hS.mxPush
   refine ⟨_,rfl,?_⟩
   refine Aa7 hS ?_;clear hS;intro w hS
   refine Dg7 hS hxi rfl ?_
   intro a4 bq
   refine Aa7 hS ?_;clear hS;intro w hS
   have br:Ec2 M4 k rl e last:=by
    rcases au with h | ⟨h1,h2,h3⟩
    · exact .inl h
    · exact .inr ⟨h1,by rw [(l _ _ (.inl (by omega))).1];exact h2,by rw [(l _ _ (.inl (by omega))).2];exact h3⟩
   obtain ⟨b0,b4,b6,bs⟩:=br.ent (N:=N) (q:=q) (O:=O) (low:=low) (L:=bg N.Hr0 N.Hq9 ry ay ny cy v2::L2) f (by omega) (AC _ hone)
   refine Cu2 H hS.mxPop bs bj ?_
   clear hS;intro bt bu bv w hS
   replace hS:=hS.mxPush
   refine ⟨_,rfl,Eh8 hS hxi bq,hS.mxHd,?_⟩
   have hrl:=(hS.mxRr hxi).len
   simp only [List.length_map] at hrl
   have hjl:=By7 hdij
   refine ⟨by omega,by omega,?_⟩
   cases a7:xi.1.1 with
   | none=>
     obtain ⟨y,hy,_⟩:=(hS.mxRr hxi).at_ 0 (by omega)
     rw [a7] at hy;cases hy
   | some b5=>
     refine Ac0 ?_
     refine Aa7 hS ?_;clear hS;intro w hS
     refine Aw7 (ws:=xi.2.map BgD.r) (enc:=Bk3) (y:=rx) (hS.mxRow hxi) a7 (by simp;omega) ?_
     clear hS;intro w hS
     rw [AD] at hS
     have hS:=Ho.mxNew2 (d':=⟨rx,bt,bu,bv,v4⟩) hxi hdij hS
     replace hS:=hS.mxPop.drop
     refine Aa7 hS ?_;clear hS;intro w hS
     refine hX6 _ _ ⟨?_,_,?_,?_,?_,hS⟩
     · rw [wrU (by omega)];rfl
     · rw [Aq4 hxi];exact bh
     · rw [Aq4 hxi];exact At3 f (by omega)
     · intro i j hij
       rw [Gh7 hxi (by omega),Aq4 hxi,Bi4 f (by omega) (by omega) (by omega)]
       exact l i j hij
end
end Go.Eng
