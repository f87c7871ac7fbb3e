/-
  slices.Clone and slices.Reverse over dyads. No condition.
-/
import Derived.Test.YtlnelldekejadaaGreatTw5
import Derived.Test.YtlnelldekejadaaGreatPl
import Derived.Test.YtlnelldekejadaaGreatSh
import Derived.Test.YtlnelldekejadaaGreatMx7
import Derived.Test.YtlnelldekejadaaGreatIne5
set_option linter.all false
set_option maxRecDepth 100000
set_option maxHeartbeats 4000000
open Go.IntKind (i64 u64)
open List renaming mem_cons_of_mem→AA,getElem?_eq_getElem→AC,mem_cons_self→AD,getD_eq_getElem?_getD→AE,getElem?_set_self→AF,getElem?_set_ne→AG,length_set→AH,getElem?_map→AI,sublist_append_right→AJ,mem_append_right→AK,mem_append_left→AL,map_append→AM,getElem?_replicate→AN,map_replicate→AO,append_assoc→AR,eq_nil_of_length_eq_zero→AS,ext_getElem?→AT,perm_middle→AU,mem_of_getElem?→AW,getElem?_set→AX,append_nil→AZ
open Int renaming toNat_natCast→AB
open Prod renaming fst→AP
open Option renaming getD_some→AQ
open Go.Value renaming int→AV
open Nat renaming le_refl→AY
namespace Go.Eng
open Go
def rvD {α:Type} (d:α) (n:Nat):Nat→List α→List α
 | 0,l=>l
 | k+1,l=>((rvD d n k l).set k ((rvD d n k l).getD (n-1-k) d)).set (n-1-k) ((rvD d n k l).getD k d)
theorem Bv5 {α:Type} (d:α) (n:Nat) (l:List α):∀ k,(rvD d n k l).length=l.length
 | 0=>rfl
 | k+1=>by
   show (((rvD d n k l).set k _).set (n-1-k) _).length=_
   rw [AH,AH];exact Bv5 d n l k
theorem Fb6 {α:Type} (d:α) {n:Nat} {l:List α} (hl:l.length=n):∀ {k:Nat},2*k≤n→∀ i,i<n→(rvD d n k l).getD i d=if i<k∨n-1-k<i then l.getD (n-1-i) d else l.getD i d
 | 0,_,i,hi=>by
   rw [if_neg (by omega)];rfl
 | k+1,hk,i,hi=>by
   have ih:=Fb6 d hl (k:=k) (by omega)
   have hlen:=Bv5 d n l k
   show ((((rvD d n k l).set k ((rvD d n k l).getD (n-1-k) d)).set (n-1-k) ((rvD d n k l).getD k d))).getD i d=_
   rw [ih k (by omega),ih (n-1-k) (by omega),AE]
   by_cases c:i=n-1-k
   · subst c
     rw [AF (by rw [AH];omega),AQ]
     by_cases a:n-1-k=k
     · rw [if_neg (by omega),if_pos (by omega)]
       congr 1;omega
     · rw [if_neg (by omega),if_pos (by omega)]
       congr 1;omega
   · rw [AG (by omega)]
     by_cases a:i=k
     · subst a
       rw [AF (by omega),AQ,if_neg (by omega),if_pos (by omega)]
     · rw [AG (by omega),← AE,ih i hi]
       by_cases b:i<k∨n-1-k<i
       · rw [if_pos b,if_pos (by omega)]
       · rw [if_neg b,if_neg (by omega)]
theorem Gi4 {α:Type} (d:α) {n:Nat} {l:List α} (hl:l.length=n) {k:Nat} (c:2*k≤n) (f:n≤2*k+1):rvD d n k l=l.reverse:=by
 refine List.ext_getElem (by rw [Bv5,List.length_reverse]) fun i a g=>?_
 rw [Bv5] at a
 have:=Fb6 d hl c i (by omega)
 have e:(rvD d n k l).getD i d=(rvD d n k l)[i]'(by rw [Bv5];exact a):=by
  rw [AE,AC (by rw [Bv5];exact a)];rfl
 rw [← e,this,List.getElem_reverse]
 have b:∀ j,(hj:j<l.length)→l.getD j d=l[j]:=fun j hj=>by
  rw [AE,AC hj];rfl
 split
 · rw [b _ (by omega)];congr 1;omega
 · rw [b _ (by omega)];congr 1;omega
theorem Gf7 {σ:Type} {body:σ→(σ→World→Prop)→World→Prop} (I:Nat→σ→World→Prop) (n:Nat) {s0:σ} {w:World} (a:I 0 s0 w)
 (step:∀ k s w (X:σ→World→Prop),k<n→I k s w→(∀ s' w',I (k+1) s' w'→X s' w')→body s X w)
 (stop:∀ s w (X:σ→World→Prop),I n s w→body s X w):Ac3 body s0 w:=by
 intro X hX
 have key:∀ m k s w,k+m=n→I k s w→X s w:=by
  intro m
  induction m with
  | zero=>
   intro k s w hk hI;obtain rfl:k=n:=by omega
   exact hX _ _ (stop s w X hI)
  | succ m ih=>intro k s w hk hI;exact hX _ _ (step k s w X (by omega) hI fun s' w' h=>ih (k+1) s' w' (by omega) h)
 exact key n 0 s0 w (by omega) a
section
variable {N:Nums} {P:Program} (H:AllOk N P)
include H
theorem El1 {w0 w:World} {L:List It} {b:Option Addr} {e f:Nat} {hh:List Hd} {l:List Dy} (hS:Ho w0 w L) (hq:Ent L (rdA (dyC l hh) b (e*3) (f*3))) (g:AllD L l hh) (hl:l.length≤4294967296) {K:Value→World→Prop}
 (hK:∀ (a:Option Addr) (n c:Nat) (k:World),Ho w0 k (sl a (n*3) (c*3) (dyC l hh) N.Hs7::L)→K (.slice a n c) k):Aa1 P N.Hg0 #[.slice b e f] w K:=by
 refine H.slices_Clone___api_Dyad_api_Dyad _ _ _ w _ ?_
 unfold Aj3
 have hr:=hq.nw hS
 have hn:=hr.len
 rw [Al7 g.len] at hn
 refine Ab7 (fun hc=>?_) (fun hc=>?_)
 · have o:l.length=0:=by
    rcases Nat.eq_zero_or_pos l.length with h | h
    · exact h
    · obtain ⟨y,hy,_⟩:=hr.at_ 0 (by omega)
      rw [hy] at hc;cases hc
   obtain rfl:=AS o
   have:=g.len
   obtain rfl:hh = []:=AS (by rw [← this];rfl)
   exact hK none 0 0 w hS.noneD
 · refine Bm3 (X:=[]) (H:=[]) (m:=0) hS rfl rfl rfl ?_
   clear hS;intro r w hS
   refine Bu3 (X:=[]) (H:=[]) hS (by simpa using hl) rfl g.len (hq.now (fun _ h=>AA _ h) hS) rfl rfl ?_
   clear hS;intro a' c' w hS
   exact hK _ _ _ w hS
theorem Ex5 {w0 w:World} {L:List It} {e:Option Addr} {h f:Nat} {hh:List Hd} {l:List Dy} {p:List It} (hS:Ho w0 w (sl e (h*3) (f*3) (dyC l hh) N.Hs7::L)) (g:AllD p l hh) (hl:l.length≤4294967296) {K:Value→World→Prop}
 (hK:∀ (a:List Hd) (u:World),AllD p l.reverse a→Ho w0 u (sl e (h*3) (f*3) (dyC l.reverse a) N.Hs7::L)→K (.tuple #[]) u):Aa1 P N.Hf9 #[.slice e h f] w K:=by
 refine H.slices_Reverse___api_Dyad_api_Dyad _ _ _ w _ ?_
 unfold Ai6
 have hn:h=l.length:=by
  have:=(slA.rd (hS.hold _ (AD ..))).len
  rw [Al7 g.len] at this;omega
 subst hn
 generalize hnn:l.length=n at *
 refine Aa9 (fun _ w=>∃ a,AllD p l.reverse a∧Ho w0 w (sl e (n*3) (f*3) (dyC l.reverse a) N.Hs7::L)) (fun J hJ=>?_) ?_
 rotate_left
 · rintro s w ⟨a,c,hS⟩
   exact hK a w c hS
 have v:i64.wrap (((n:Nat):Int)-1)=((n:Nat):Int)-1-((0:Nat):Int):=by rw [wrI (by omega) (by omega)];omega
 rw [v]
 refine Gf7 (fun k s w=>s=((k:Int),((n:Nat):Int)-1-(k:Int),())∧∃ a,AllD p (rvD (false,[],0) n k l) a∧Ho w0 w (sl e (n*3) (f*3) (dyC (rvD (false,[],0) n k l) a) N.Hs7::L)) (n/2) ⟨rfl,hh,g,hS⟩ ?_ ?_
 rotate_left
 · rintro s w X ⟨rfl,a,c,hS⟩
   dsimp only
   refine Ab7 (fun hc=>?_) (fun _=>?_)
   · simp at hc;omega
   refine hJ _ _ ⟨a,?_⟩
   rw [Gi4 _ hnn (by omega) (by omega)] at c hS
   exact ⟨c,hS⟩
 rintro k s w X hk ⟨rfl,a,c,hS⟩ hX
 dsimp only
 have hlen:=Bv5 ((false,[],0):Dy) n l k
 have hstep:rvD ((false,[],0):Dy) n (k+1) l=((rvD (false,[],0) n k l).set k ((rvD (false,[],0) n k l).getD (n-1-k) (false,[],0))).set (n-1-k) ((rvD (false,[],0) n k l).getD k (false,[],0)):=rfl
 generalize rvD ((false,[],0):Dy) n k l=Y at *
 refine Ab7 (fun _=>?_) (fun hc=>?_)
 rotate_left
 · simp at hc;omega
 have ej:((n:Nat):Int)-1-(k:Int)=((n-1-k:Nat):Int):=by omega
 rw [ej]
 -- both places
 have m:Y[n-1-k]?=some (Y.getD (n-1-k) (false,[],0)):=by
  rw [AE,AC (by omega)];rfl
 have o:Y[k]?=some (Y.getD k (false,[],0)):=by
  rw [AE,AC (by omega)];rfl
 generalize Y.getD (n-1-k) (false,[],0)=yj at *
 generalize Y.getD k (false,[],0)=yk at *
 obtain ⟨gj,hgj,z⟩:=c.get m
 obtain ⟨gk,hgk,aa⟩:=c.get o
 have hr:=slA.rd (hS.hold _ (AD ..))
 have tj:(((n-1-k:Nat):Int)).toNat=n-1-k:=AB _
 have tk:(((k:Nat):Int)).toNat=k:=AB _
 refine Ah3 c.len hr (by omega) (by rw [tj];omega) ?_
 intro b hb
 refine ⟨_,Bq3 hr hb (by rw [tj];exact m) (by rw [tj];exact hgj),_,_,_,Bm9 hr hb (by rw [tj];exact m) (by rw [tj];exact hgj),_,Bj1 hr hb (by rw [tj];exact m) (by rw [tj];exact hgj),?_⟩
 refine Ah3 c.len hr (by omega) (by rw [tk];omega) ?_
 intro b2 r
 refine ⟨_,Bq3 hr r (by rw [tk];exact o) (by rw [tk];exact hgk),_,_,_,Bm9 hr r (by rw [tk];exact o) (by rw [tk];exact hgk),_,Bj1 hr r (by rw [tk];exact o) (by rw [tk];exact hgk),?_⟩
 refine Ah3 c.len hr (by omega) (by rw [tk];omega) ?_
 intro b3 ab
 refine Aa7 hS ?_;clear hS;intro w hS
 refine Cw1 (i:=(k:Int)) (x:=yj) (g:=gj) hS c.len ab (by rw [tk];omega) ?_
 clear hS;intro w hS
 rw [tk] at hS
 have t:=c.set z k
 have ac:=slA.rd (hS.hold _ (AD ..))
 refine Ah3 t.len ac (by omega) (by rw [tj,AH];omega) ?_
 intro b4 ad
 refine Aa7 hS ?_;clear hS;intro w hS
 refine Cw1 (i:=((n-1-k:Nat):Int)) (x:=yk) (g:=gk) hS t.len ad (by rw [tj,AH];omega) ?_
 clear hS;intro w hS
 rw [tj] at hS
 refine Aa7 hS ?_;clear hS;intro w hS
 have g3:=t.set aa (n-1-k)
 refine hX _ _ ⟨?_,(a.set k gj).set (n-1-k) gk,?_,?_⟩
 · rw [wrU (by omega),wrI (by omega) (by omega)]
   congr 2
   omega
 · rw [hstep];exact g3
 · rw [hstep];exact hS
end
end Go.Eng
/-
  Matrices of pointers without a struct ahead: made, grown by a place, read, changed in place. No condition.
-/
namespace Go.Eng
open Go
def mxB (I E tL tO:Nat) (O:Hd) (M:List Rw) (L:List It):List It:=mxO tO O M::(mxR I E tL M++L)
section
variable {I E tL tO tR q:Nat} {O:Hd} {low:Value} {M:List Rw} {L:List It} {w0 w:World} {i j:Nat} {x:Rw} {d d':BgD} {y:It}
theorem Cm7:(y::mxB I E tL tO O M L).Perm (mxB I E tL tO O M (y::L)):=by
 unfold mxB
 exact (List.Perm.swap _ _ _).trans (.cons _ List.perm_middle.symm)
theorem Ho.mbPush (hS:Ho w0 w (y::mxB I E tL tO O M L)):Ho w0 w (mxB I E tL tO O M (y::L)):=hS.perm Cm7
theorem Ho.mbPop (hS:Ho w0 w (mxB I E tL tO O M (y::L))):Ho w0 w (y::mxB I E tL tO O M L):=hS.perm Cm7.symm
theorem Ag2 (h:y∈L):y∈mxB I E tL tO O M L:=AA _ (AK _ h)
theorem Ho.mbOr (hS:Ho w0 w (mxB I E tL tO O M L)):rdA ((M.map AP).map hdV) O.1 O.2.1 O.2.2 w:=slA.rd (hS.hold _ (AD ..))
theorem Ho.mbLen (hS:Ho w0 w (mxB I E tL tO O M L)):O.2.1=M.length:=by
 have:=hS.mbOr.len
 simpa using this
theorem Ho.mbRr (hS:Ho w0 w (mxB I E tL tO O M L)) (hx:M[i]?=some x):rdA ((x.2.map BgD.r).map Bk3) x.1.1 x.1.2.1 x.1.2.2 w:=
 slA.rd (t:=tL) (hS.hold _ (AA _ (AL _ (Ei7 hx (AD ..)))))
def Fg0 (I E tL tO:Nat) (O:Hd) (M:List Rw) (L:List It) (i j:Nat) (x:Rw):List It:=mxO tO O M::(mxZ I E tL M i j x++L)
theorem Ho.mbOut (hS:Ho w0 w (mxB I E tL tO O M L)) (hx:M[i]?=some x) (hd:x.2[j]?=some d):Ho w0 w (bg I E d.r d.a d.n d.c d.z::Fg0 I E tL tO O M L i j x):=by
 refine hS.perm ?_
 unfold mxB Fg0
 exact (((Ec5 hx hd).append_right L).cons _).trans (.swap _ _ _)
theorem Ho.mbIn (hx:M[i]?=some x) (hd:x.2[j]?=some d) (hr:d'.r=d.r) (hS:Ho w0 w (bg I E d'.r d'.a d'.n d'.c d'.z::Fg0 I E tL tO O M L i j x)):Ho w0 w (mxB I E tL tO O (M.set i (x.1,x.2.set j d')) L):=by
 refine hS.perm ?_
 unfold mxB Fg0
 have e:mxO tO O (M.set i (x.1,x.2.set j d'))=mxO tO O M:=by unfold mxO;rw [Cb3 hx]
 rw [e]
 exact (List.Perm.swap _ _ _).trans (((Ga3 (I:=I) (E:=E) (tL:=tL) hx hd hr).append_right L).cons _)
theorem Eu2 (h:y∈L):y∈Fg0 I E tL tO O M L i j x:=AA _ (AK _ h)
theorem Eo2 (hS:Ho w0 w L):∀ n:Nat,Ho w0 w (mxR I E tL (List.replicate n ((none,0,0),[]))++L)
 | 0=>hS
 | n+1=>by
   have a:=Eo2 hS n
   exact a.none (α:=Nat) (enc:=Bk3) (t:=tL)
theorem Ge0 {n:Nat} {K:Addr→World→Prop} (hS:Ho w0 w L) (hn:n≤1099511627776)
 (hk:∀ (r:Nat) (w':World),Ho w0 w' (mxB I E tL tO (some ⟨r,0,none⟩,n,n) (List.replicate n ((none,0,0),[])) L)→K ⟨r,0,none⟩ w'):mkM tO 1 24 #[.slice none 0 0] (n:Int) (n:Int) w K:=by
 refine Ew9 (enc:=hdV) (z:=(none,0,0)) hS ⟨by omega,by omega,by omega⟩ rfl ?_
 intro r w' h
 refine hk r w' ?_
 rw [AB] at h
 have a:Ho w0 w' (mxR I E tL (List.replicate n ((none,0,0),[]))++(sl (some ⟨r,0,none⟩) n n ((List.replicate n ((none:Option Addr),0,0)).map hdV) tO::L)):=Eo2 h n
 refine a.perm ?_
 unfold mxB mxO
 have e:(List.replicate n (((none:Option Addr),0,0),([]:List BgD))).map AP=List.replicate n ((none:Option Addr),0,0):=AO
 rw [e]
 exact AU
theorem Ho.mbRow (hS:Ho w0 w (mxB I E tL tO O M L)) (hx:M[i]?=some x):Ho w0 w (sl x.1.1 x.1.2.1 x.1.2.2 ((x.2.map BgD.r).map Bk3) tL::(mxO tO O M::((x.2.map (bgI I E)++mxR I E tL (M.eraseIdx i))++L))):=by
 refine hS.perm ?_
 unfold mxB
 exact (((Du9 hx).append_right L).cons _).trans (.swap _ _ _)
theorem Ho.mbGrow {h:Hd} (hx:M[i]?=some x) (hS:Ho w0 w (sl O.1 O.2.1 O.2.2 (((M.map AP).set i h).map hdV) tO::sl h.1 h.2.1 h.2.2 (((x.2.map BgD.r) ++ [d'.r]).map Bk3) tL::((x.2.map (bgI I E)++mxR I E tL (M.eraseIdx i))++(bg I E d'.r d'.a d'.n d'.c d'.z::L)))):Ho w0 w (mxB I E tL tO O (M.set i (h,x.2 ++ [d'])) L):=by
 refine hS.perm ?_
 unfold mxB mxO
 have b:(M.set i (h,x.2 ++ [d'])).map AP=(M.map AP).set i h:=by rw [List.map_set]
 rw [b]
 refine .cons _ ?_
 refine List.Perm.trans ?_ ((Cr7 (I:=I) (E:=E) (tL:=tL) (x':=(h,x.2 ++ [d'])) hx).symm.append_right L)
 unfold Bk4
 dsimp only
 have e:(x.2 ++ [d']).map BgD.r=x.2.map BgD.r ++ [d'.r]:=by rw [AM];rfl
 have f:(x.2 ++ [d']).map (bgI I E)=x.2.map (bgI I E) ++ [bgI I E d']:=by rw [AM];rfl
 rw [e,f]
 refine .cons _ ?_
 show ((x.2.map (bgI I E)++mxR I E tL (M.eraseIdx i))++(bgI I E d'::L)).Perm ((x.2.map (bgI I E) ++ [bgI I E d'])++mxR I E tL (M.eraseIdx i)++L)
 rw [AR,AR,AR]
 refine List.Perm.append_left _ ?_
 exact AU
end
end Go.Eng
/-
  Matrices of pointers: a row grows by a number. No condition.
-/
namespace Go.Eng
open Go
section
variable {I E tL tO tR q:Nat} {O:Hd} {low:Value} {M:List Rw} {L:List It} {w0 w:World} {i j:Nat} {x:Rw} {d d':BgD} {y:It}
def mbG (I E tL tO:Nat) (O:Hd) (M:List Rw) (i:Nat) (x:Rw) (d':BgD) (L:List It):List It:=mxO tO O M::((x.2.map (bgI I E)++mxR I E tL (M.eraseIdx i))++(bg I E d'.r d'.a d'.n d'.c d'.z::L))
theorem Fe4 {pr e:Nat} {K:Option Addr→Nat→Nat→World→Prop} (hS:Ho w0 w (sl (some ⟨pr,0,none⟩) 1 1 ([d'.r].map Bk3) e::mxB I E tL tO O M (bg I E d'.r d'.a d'.n d'.c d'.z::L))) (hx:M[i]?=some x) (hl:x.2.length+1≤4294967296)
 (hK:∀ (a':Option Addr) (c':Nat) (w':World),Ho w0 w' (sl a' (x.1.2.1+1) c' ((x.2.map BgD.r ++ [d'.r]).map Bk3) tL::mbG I E tL tO O M i x d' L)→K a' (x.1.2.1+1) c' w'):Bn8 tL 1 8 #[.pointer none] x.1.1 x.1.2.1 x.1.2.2 (some ⟨pr,0,none⟩) 1 w K:=by
 have b:=(hS.mbPush).mbRow hx
 have hlit:rdA ([d'.r].map Bk3) (some ⟨pr,0,none⟩) 1 1 w:=slA.rd (hS.hold _ (AD ..))
 refine Bv8 (ws:=x.2.map BgD.r) (ks:=[d'.r]) b (by simpa using hl) hlit (fun _=>rfl) rfl ?_
 intro a' c' w' f
 refine hK a' c' w' (f.sub ?_)
 unfold mbG
 refine List.Sublist.cons_cons _ (List.Sublist.cons_cons _ ?_)
 exact (List.Sublist.refl _).append (List.sublist_cons_self _ _)
theorem Dk4 {a':Option Addr} {n' c':Nat} {b:Addr} {K:World→Prop} (hS:Ho w0 w (sl a' n' c' ((x.2.map BgD.r ++ [d'.r]).map Bk3) tL::mbG I E tL tO O M i x d' L)) (hx:M[i]?=some x) (ha:O.1=some b)
 (hK:∀ w':World,Ho w0 w' (mxB I E tL tO O (M.set i ((a',n',c'),x.2 ++ [d'])) L)→K w'):stM (b.add (((i:Nat):Int).toNat*1)) (.slice a' n' c') w K:=by
 have c:=hS.perm (.swap _ _ _)
 refine Aw7 (ws:=M.map AP) (enc:=hdV) (y:=(a',n',c')) c ha (by rw [AB,List.length_map];exact By7 hx) ?_
 intro w' a
 rw [AB] at a
 exact hK w' (Ho.mbGrow (h:=(a',n',c')) hx a)
end
end Go.Eng
/-
  Matrices of pointers anywhere in what is held: reading. No condition.
-/
namespace Go.Eng
open Go
section
variable {I E tL tO tR q:Nat} {O:Hd} {low:Value} {M:List Rw} {L Z:List It} {w0 w:World} {i j:Nat} {x:Rw} {d d':BgD} {y:It}
def MIn (I E tL tO:Nat) (O:Hd) (M:List Rw) (Z:List It):Prop:=mxO tO O M∈Z∧∀ e,e∈mxR I E tL M→e∈Z
theorem MIn.row (h:MIn I E tL tO O M Z) (hx:M[i]?=some x):sl x.1.1 x.1.2.1 x.1.2.2 ((x.2.map BgD.r).map Bk3) tL∈Z:=h.2 _ (Ei7 hx (AD ..))
theorem MIn.bg (h:MIn I E tL tO O M Z) (hx:M[i]?=some x) (hd:x.2[j]?=some d):bgI I E d∈Z:=h.2 _ (Ez8 hx hd)
theorem MIn.ent (h:MIn I E tL tO O M Z) (hx:M[i]?=some x) (hd:x.2[j]?=some d):Ent Z (bgR I d.r d.a d.n d.c d.z):=Ent.bg (h.bg hx hd)
theorem MIn.sub {Z':List It} (h:MIn I E tL tO O M Z) (hs:∀ e,e∈Z→e∈Z'):MIn I E tL tO O M Z':=⟨hs _ h.1,fun e he=>hs _ (h.2 e he)⟩
theorem MIn.cons (h:MIn I E tL tO O M Z):MIn I E tL tO O M (y::Z):=h.sub fun _ he=>AA _ he
theorem MIn.app (h:MIn I E tL tO O M Z) {X:List It}:MIn I E tL tO O M (X++Z):=h.sub fun _ he=>AK _ he
theorem MIn.here:MIn I E tL tO O M (mxB I E tL tO O M L):=⟨AD ..,fun _ he=>AA _ (AL _ he)⟩
theorem MIn.all:MIn I E tL tO O M (An9 I E tL tO tR q O low M L):=(MIn.here (L:=L)).cons
theorem MIn.under {O2:Hd} {M2:List Rw} (h:MIn I E tL tO O M L):MIn I E tL tO O M (mxB I E tL tO O2 M2 L):=h.sub fun _ he=>Ag2 he
theorem Ce0 {ii:Int} {K:Addr→Option Addr→Nat→Nat→Prop} (hS:Ho w0 w Z) (h:MIn I E tL tO O M Z) (hx:M[i]?=some x) (hi:ii=(i:Int))
 (hK:∀ a:Addr,O.1=some a→K a x.1.1 x.1.2.1 x.1.2.2) :
 (0:Int)≤ii∧ii<(O.2.1:Nat)∧Ab6 O.1 fun c=>∃ (e:Option Addr) (f g:Nat),w.cell? (c.add (ii.toNat*1))=some (.slice e f g)∧K c e f g:=by
 subst hi
 have hr:rdA ((M.map AP).map hdV) O.1 O.2.1 O.2.2 w:=slA.rd (hS.hold _ h.1)
 have hg:(M.map AP)[((i:Nat):Int).toNat]?=some x.1:=by
  rw [AB,AI,hx];rfl
 refine Ad6 hr hg (by omega) (By7 hg) ?_
 intro b hb
 exact ⟨_,_,_,Bv7 hr hb hg,hK b hb⟩
theorem Dd8 {jj:Int} {K:Addr→Option Addr→Prop} (hS:Ho w0 w Z) (h:MIn I E tL tO O M Z) (hx:M[i]?=some x) (hd:x.2[j]?=some d) (hj:jj=(j:Int))
 (hK:∀ b:Addr,x.1.1=some b→K b (some ⟨d.r,0,none⟩)) :
 (0:Int)≤jj∧jj<(x.1.2.1:Nat)∧Ab6 x.1.1 fun a=>∃ p:Option Addr,w.cell? (a.add (jj.toNat*1))=some (.pointer p)∧K a p:=by
 subst hj
 have hr:rdA ((x.2.map BgD.r).map Bk3) x.1.1 x.1.2.1 x.1.2.2 w:=slA.rd (t:=tL) (hS.hold _ (h.row hx))
 have hg:(x.2.map BgD.r)[((j:Nat):Int).toNat]?=some d.r:=by
  rw [AB,AI,hd];rfl
 refine Ad6 hr hg (by omega) (By7 hg) ?_
 intro b hb
 exact ⟨_,Ab8 (enc:=Bk3) hr hb hg,hK b hb⟩
theorem Fx9 {jj:Int} {h:Hd} {ds:List BgD} {K:Addr→Option Addr→Prop} (hS:Ho w0 w Z) (hm:sl h.1 h.2.1 h.2.2 ((ds.map BgD.r).map Bk3) tL∈Z) (hd:ds[j]?=some d) (hj:jj=(j:Int))
 (hK:∀ b:Addr,h.1=some b→K b (some ⟨d.r,0,none⟩)) :
 (0:Int)≤jj∧jj<(h.2.1:Nat)∧Ab6 h.1 fun a=>∃ p:Option Addr,w.cell? (a.add (jj.toNat*1))=some (.pointer p)∧K a p:=by
 subst hj
 have hr:rdA ((ds.map BgD.r).map Bk3) h.1 h.2.1 h.2.2 w:=slA.rd (t:=tL) (hS.hold _ hm)
 have hg:(ds.map BgD.r)[((j:Nat):Int).toNat]?=some d.r:=by
  rw [AB,AI,hd];rfl
 refine Ad6 hr hg (by omega) (By7 hg) ?_
 intro b hb
 exact ⟨_,Ab8 (enc:=Bk3) hr hb hg,hK b hb⟩
theorem Ho.mbFlip {z:It} (hS:Ho w0 w (y::mxB I E tL tO O M (z::L))):Ho w0 w (z::mxB I E tL tO O M (y::L)):=
 hS.perm (((Cm7 (y:=z)).symm.cons y).trans ((List.Perm.swap _ _ _).trans (Cm7.cons z)))
theorem Ho.flip2 {z:It} (hS:Ho w0 w (y::z::L)):Ho w0 w (z::y::L):=hS.perm (.swap _ _ _)
end
def Eh1 (n:Nat) (c:Int):Mt→Option Mt:=Al1 (fun i A=>(Au1 (ent A i i) c).bind fun y=>some (Cd5 A i i y)) n
def Cw8 (n:Nat) (V A:Mt) (i j:Nat):Option Int:=Al1 (fun h x=>(Bt7 (ent V i h) (ent A h j)).bind fun y=>Au1 x y) n 0
def Cd2 (n:Nat) (V A:Mt) (i:Nat):Option (List Int):=Al1 (fun j l=>(Cw8 n V A i j).bind fun x=>some (l ++ [x])) n []
def Dm1 (n:Nat) (V A:Mt):Option (Mt×Int):=Al1 (fun i s=>(Cd2 n V A i).bind fun r=>(Au1 s.2 (r.getD i 0)).bind fun t=>some (s.1.set i r,t)) n (List.replicate n [],0)
def Bz8 (n:Nat) (V:Mt) (k:Nat) (s:List Int×Mt):Option (List Int×Mt):=
 (Eh1 n (s.1.getD k 0) s.2).bind fun A1=>(Dm1 n V A1).bind fun o=>(At5 ((k+1:Nat):Int)).bind fun a=>(Cj0 o.2 a).bind fun c=>(Cr3 c).bind fun c'=>some (s.1 ++ [c'],o.1)
def Fa0 (n:Nat) (V:Mt):Option (List Int):=(Al1 (Bz8 n V) n ([1],List.replicate n (List.replicate n 0))).bind fun s=>some s.1
end Go.Eng
/-
  inertia's rows: coefficients, its first part: a matrix of Ei6. No condition.
-/
namespace Go.Eng
open Go
def Bld (n k m:Nat) (M:List Rw):Prop:=M.length=n∧∀ i x,M[i]?=some x→x.2.map BgD.z=List.replicate (if i<k then n else if i=k then m else 0) 0
theorem Bld.start (n:Nat):Bld n 0 0 (List.replicate n ((none,0,0),[])):=by
 refine ⟨by simp,fun i x hx=>?_⟩
 rw [AN] at hx
 split at hx
 · cases hx
   rw [if_neg (by omega)]
   split<;>rfl
 · cases hx
theorem Bld.next {n k:Nat} {M:List Rw} (h:Bld n k n M):Bld n (k+1) 0 M:=by
 refine ⟨h.1,fun i x hx=>?_⟩
 rw [h.2 i x hx]
 by_cases a:i<k
 · rw [if_pos a,if_pos (by omega)]
 · by_cases b:i=k
   · rw [if_neg a,if_pos b,if_pos (by omega)]
   · rw [if_neg a,if_neg b,if_neg (by omega)]
     split<;>rfl
theorem Bld.grow {n k m:Nat} {M:List Rw} {x:Rw} {h:Hd} {d:BgD} (hb:Bld n k m M) (hx:M[k]?=some x) (hz:d.z=0):Bld n k (m+1) (M.set k (h,x.2 ++ [d])):=by
 refine ⟨by rw [AH];exact hb.1,fun i y hy=>?_⟩
 by_cases c:i=k
 · subst c
   rw [AF (By7 hx)] at hy
   cases hy
   have:=hb.2 _ _ hx
   rw [if_neg (by omega),if_pos rfl] at this ⊢
   rw [AM,this,List.replicate_succ']
   simp [hz]
 · rw [AG (by omega)] at hy
   rw [hb.2 i y hy]
   by_cases a:i<k
   · rw [if_pos a,if_pos a]
   · rw [if_neg a,if_neg a,if_neg c,if_neg c]
theorem Bld.done {n:Nat} {M:List Rw} (h:Bld n n 0 M):vals M=List.replicate n (List.replicate n 0):=by
 refine AT fun i=>?_
 rw [AN]
 rcases Nat.lt_or_ge i M.length with a | a
 · rw [Bf2 (AC a),if_pos (by rw [← h.1];exact a),h.2 i _ (AC a),if_pos (by rw [← h.1];exact a)]
 · rw [List.getElem?_eq_none (by rw [An4];exact a),if_neg (by rw [← h.1];omega)]
section
variable {N:Nums} {P:Program} (H:AllOk N P)
include H
theorem Ei6 {w0 w:World} {Z:List It} {n c:Nat} {J:Unit→World→Prop} (hn:n≤1073741824)
 (hS:Ho w0 w (mxB N.Hr0 N.Hq9 N.Ho7 N.Hl3 (some ⟨c,0,none⟩,n,n) (List.replicate n ((none,0,0),[])) Z))
 (hJ:∀ (M1:List Rw) (f:World),vals M1=List.replicate n (List.replicate n 0)→Ho w0 f (mxB N.Hr0 N.Hq9 N.Ho7 N.Hl3 (some ⟨c,0,none⟩,n,n) M1 Z)→J () f) :
 Ac3 (σ:=Int×Unit) (fun a r g=>
  cond (decide (a.1<((n:Nat):Int)))
  (Ad7 (σ:=Unit) (fun t=>
   Ac3 (σ:=Int×Unit) (fun h u e=>
    cond (decide (h.1<((n:Nat):Int)))
    ((0:Int)≤a.1∧a.1<(((n:Nat):Int).toNat:Nat) ∧
      ∃ (l:Option Addr) (o p:Nat),e.cell? ((⟨c,0,none⟩:Addr).add (a.1.toNat*1))=some (.slice l o p) ∧
      Ac8 #[.bool false,.slice none 0 0] N.Hr0 e fun v z=>
      Ac8 #[.pointer (some v)] N.Ho7 z fun aa ab=>
      Bn8 N.Ho7 1 8 #[.pointer none] l o p (some aa) 1 ab fun ac ad ae af=>
      (0:Int)≤a.1∧a.1<(((n:Nat):Int).toNat:Nat) ∧
      stM ((⟨c,0,none⟩:Addr).add (a.1.toNat*1)) (.slice ac ad ae) af fun ag=>
      u ((i64.wrap (h.1+1)),()) ag)
    (t (()) e))
   (0,()) g)
   (fun ai ah=>
    r ((i64.wrap (a.1+1)),()) ah))
  (J (()) g))
 (0,()) w:=by
 refine As0 (fun k s w=>s=((k:Int),())∧∃ M1:List Rw,Bld n k 0 M1∧Ho w0 w (mxB N.Hr0 N.Hq9 N.Ho7 N.Hl3 (some ⟨c,0,none⟩,n,n) M1 Z)) n ⟨rfl,_,Bld.start n,hS⟩ ?_ ?_
 rotate_left
 · rintro s w X ⟨rfl,M1,hb,hS⟩
   dsimp only
   refine Ab7 (fun hc=>?_) (fun _=>?_)
   · simp at hc
   exact hJ M1 w hb.done hS
 rintro k s w X hk ⟨rfl,M1,hb,hS⟩ hX
 dsimp only
 refine Ab7 (fun _=>?_) (fun hc=>?_)
 rotate_left
 · simp at hc;omega
 refine Aa9 (fun _ w=>∃ M2:List Rw,Bld n k n M2∧Ho w0 w (mxB N.Hr0 N.Hq9 N.Ho7 N.Hl3 (some ⟨c,0,none⟩,n,n) M2 Z)) (fun J2 hJ2=>?_) ?_
 rotate_left
 · rintro s w ⟨M2,b,hS⟩
   exact hX _ _ ⟨by rw [wrU (by omega)],M2,b.next,hS⟩
 refine As0 (fun m s w=>s=((m:Int),())∧∃ M2:List Rw,Bld n k m M2∧Ho w0 w (mxB N.Hr0 N.Hq9 N.Ho7 N.Hl3 (some ⟨c,0,none⟩,n,n) M2 Z)) n ⟨rfl,M1,hb,hS⟩ ?_ ?_
 rotate_left
 · rintro s w X2 ⟨rfl,M2,b,hS⟩
   dsimp only
   refine Ab7 (fun hc=>?_) (fun _=>?_)
   · simp at hc
   exact hJ2 _ _ ⟨M2,b,hS⟩
 rintro m s w X2 hm ⟨rfl,M2,b,hS⟩ hX2
 dsimp only
 refine Ab7 (fun _=>?_) (fun hc=>?_)
 rotate_left
 · simp at hc;omega
 have hxk:M2[k]?=some (M2[k]'(by rw [b.1];exact hk)):=AC _
 generalize (M2[k]'(by rw [b.1];exact hk))=x at hxk
 have hlen:x.2.length=m:=by
  have:=congrArg List.length (b.2 _ _ hxk)
  simpa using this
 rw [AB]
 refine ⟨by omega,by omega,?_⟩
 have hg:(M2.map AP)[((k:Nat):Int).toNat]?=some x.1:=by
  rw [AB,AI,hxk];rfl
 refine ⟨_,_,_,Bv7 hS.mbOr rfl hg,?_⟩
 refine Ab2 hS ?_
 clear hS;intro rx w hS
 replace hS:=(Ho.bgNew (E:=N.Hq9) hS).mbPush
 refine Ba4 (ks:=[rx]) (enc:=Bk3) (m:=1) hS rfl rfl ?_
 clear hS;intro pr w hS
 refine Fe4 (d':=⟨rx,none,0,0,0⟩) hS hxk (by omega) ?_
 clear hS;intro a' c' w hS
 refine ⟨by omega,by omega,?_⟩
 refine Dk4 hS hxk rfl ?_
 clear hS;intro w hS
 exact hX2 _ _ ⟨by rw [wrU (by omega)],_,b.grow hxk rfl,hS⟩
end
end Go.Eng
/-
  inertia's rows: coefficients: a place of a product, the diagonal. No condition.
-/
namespace Go.Eng
open Go
section
variable {N:Nums} {P:Program} (H:AllOk N P)
include H
theorem Ft2 {w0 w:World} {R:List It} {n q i j rx ry:Nat} {O OA:Hd} {low:Value} {M MA:List Rw} {ax ay:Option Addr} {nx cx ny cy:Nat} {zy v:Int} {J:Unit→World→Prop} (hn:n≤1073741824) (hi:i<n) (hj:j<n)
 (hqV:Sq n (vals M)) (hqA:Sq n (vals MA)) (hcl:cl q [.slice O.1 O.2.1 O.2.2,low] N.Hi4∈R) (hV:MIn N.Hr0 N.Hq9 N.Ho7 N.Hl3 O M R) (hA:MIn N.Hr0 N.Hq9 N.Ho7 N.Hl3 OA MA R)
 (hd:Cw8 n (vals M) (vals MA) i j=some v)
 (hS:Ho w0 w (bg N.Hr0 N.Hq9 ry ay ny cy zy::bg N.Hr0 N.Hq9 rx ax nx cx 0::R))
 (hJ:∀ (a':Option Addr) (n' c':Nat) (o:World),Ho w0 o (bg N.Hr0 N.Hq9 rx a' n' c' v::R)→J () o) :
 Ac3 (σ:=Int×Unit) (fun a af b=>
  cond (decide (a.1<((n:Nat):Int)))
  (Ab6 (some ⟨q,0,none⟩) fun ag=>
  ∃ (p:Option Addr) (r ah:Nat),b.cell? ag=some (.slice p r ah) ∧
  (0:Int)≤(i:Int)∧(i:Int)<(r:Nat) ∧
  Ab6 p fun ai=>
  ∃ (u:Option Addr) (z aj:Nat),b.cell? (ai.add ((i:Int).toNat*1))=some (.slice u z aj) ∧
  (0:Int)≤a.1∧a.1<(z:Nat) ∧
  Ab6 u fun ak=>
  ∃ aa:(Option Addr),b.cell? (ak.add (a.1.toNat*1))=some (.pointer aa) ∧
  (0:Int)≤a.1∧a.1<(OA.2.1:Nat) ∧
  Ab6 OA.1 fun al=>
  ∃ (ab:Option Addr) (ac am:Nat),b.cell? (al.add (a.1.toNat*1))=some (.slice ab ac am) ∧
  (0:Int)≤(j:Int)∧(j:Int)<(ac:Nat) ∧
  Ab6 ab fun an=>
  ∃ ad:(Option Addr),b.cell? (an.add ((j:Int).toNat*1))=some (.pointer ad) ∧
  drM b fun ao=>
  Aa1 P N.Hq7 #[.pointer (some ⟨ry,0,none⟩),.pointer aa,.pointer ad] ao fun ap aq=>
  ∃ ae:(Option Addr),ap=(.pointer ae) ∧
  drM aq fun ar=>
  Aa1 P N.Hq0 #[.pointer (some ⟨rx,0,none⟩),.pointer (some ⟨rx,0,none⟩),.pointer ae] ar fun au av=>
  ∃ aw:(Option Addr),au=(.pointer aw) ∧
  drM av fun az=>
  af ((i64.wrap (a.1+1)),()) az)
  (J (()) b))
  (0,()) w:=by
 refine As0 (fun k s w=>s=((k:Int),())∧∃ (t zz:Int) (g:Option Addr) (l m:Nat) (c:Option Addr) (e f:Nat),Al1 (fun h x=>(Bt7 (ent (vals M) i h) (ent (vals MA) h j)).bind fun y=>Au1 x y) k 0=some t∧Ho w0 w (bg N.Hr0 N.Hq9 ry g l m zz::bg N.Hr0 N.Hq9 rx c e f t::R)) n ⟨rfl,0,zy,ay,ny,cy,ax,nx,cx,rfl,hS⟩ ?_ ?_
 rotate_left
 · rintro s w X ⟨rfl,t,zz,g,l,m,c,e,f,hf,hS⟩
   dsimp only
   refine Ab7 (fun hc=>?_) (fun _=>?_)
   · simp at hc
   have:some t=some v:=hf.symm.trans hd
   obtain rfl:=Option.some.inj this
   exact hJ c e f w hS.drop
 rintro k s w X hk ⟨rfl,t,zz,g,l,m,c,e,f,hf,hS⟩ hX
 dsimp only
 refine Ab7 (fun _=>?_) (fun hc=>?_)
 rotate_left
 · simp at hc;omega
 obtain ⟨t',ht,hf'⟩:=Ar5 hd hk hf
 obtain ⟨y,hy,ht⟩:=bnd ht
 obtain ⟨xv,dv,hxv,hdv,hzv,_⟩:=Ax5 hqV hi hk
 obtain ⟨xa,da,hxa,hda,hza,_⟩:=Ax5 hqA hk hj
 rw [← hzv,← hza] at hy
 refine Ac0 ⟨_,_,_,hS.cel (i:=0) (AA _ (AA _ hcl)) rfl,?_⟩
 refine Ce0 hS hV.cons.cons hxv rfl ?_
 intro b1 _
 refine Dd8 hS hV.cons.cons hxv hdv rfl ?_
 intro b2 _
 refine Ce0 hS hA.cons.cons hxa rfl ?_
 intro b3 _
 refine Dd8 hS hA.cons.cons hxa hda rfl ?_
 intro b4 _
 refine Aa7 hS ?_;clear hS;intro w hS
 refine Bw5 H hS (hV.cons.ent hxv hdv) (hA.cons.ent hxa hda) hy ?_
 clear hS;intro g l m w hS
 refine ⟨_,rfl,?_⟩
 refine Aa7 hS ?_;clear hS;intro w hS
 refine Bd4 H hS.flip2 (Ent.bg mp0) ht ?_
 clear hS;intro c e f w hS
 refine ⟨_,rfl,?_⟩
 refine Aa7 hS ?_;clear hS;intro w hS
 exact hX _ _ ⟨by rw [wrU (by omega)],t',y,g,l,m,c,e,f,hf',hS.flip2⟩
theorem Fi5 {w0 w:World} {R:List It} {n k:Nat} {OA ho:Hd} {MA:List Rw} {ds:List BgD} {c:BgD} {V':Mt} {J:Unit→World→Prop} (hn:n≤1073741824) (hqA:Sq n (vals MA)) (hm:sl ho.1 ho.2.1 ho.2.2 ((ds.map BgD.r).map Bk3) N.Ho7∈R) (hb:bgI N.Hr0 N.Hq9 c∈R) (hc:ds[k]?=some c)
 (hd:Eh1 n c.z (vals MA)=some V')
 (hS:Ho w0 w (mxB N.Hr0 N.Hq9 N.Ho7 N.Hl3 OA MA R))
 (hJ:∀ (M1:List Rw) (e:World),vals M1=V'→Sq n (vals M1)→Ho w0 e (mxB N.Hr0 N.Hq9 N.Ho7 N.Hl3 OA M1 R)→J () e) :
 Ac3 (σ:=Int×Unit) (fun a u b=>
  cond (decide (a.1<((n:Nat):Int)))
  ((0:Int)≤a.1∧a.1<(OA.2.1:Nat) ∧
    Ab6 OA.1 fun v=>
    ∃ (f:Option Addr) (g aa:Nat),b.cell? (v.add (a.1.toNat*1))=some (.slice f g aa) ∧
    (0:Int)≤a.1∧a.1<(g:Nat) ∧
    Ab6 f fun ab=>
    ∃ h:(Option Addr),b.cell? (ab.add (a.1.toNat*1))=some (.pointer h) ∧
    (0:Int)≤a.1∧a.1<(OA.2.1:Nat) ∧
    Ab6 OA.1 fun ac=>
    ∃ (l:Option Addr) (o ad:Nat),b.cell? (ac.add (a.1.toNat*1))=some (.slice l o ad) ∧
    (0:Int)≤a.1∧a.1<(o:Nat) ∧
    Ab6 l fun ae=>
    ∃ p:(Option Addr),b.cell? (ae.add (a.1.toNat*1))=some (.pointer p) ∧
    (0:Int)≤(k:Int)∧(k:Int)<(ho.2.1:Nat) ∧
    Ab6 ho.1 fun af=>
    ∃ t:(Option Addr),b.cell? (af.add ((k:Int).toNat*1))=some (.pointer t) ∧
    drM b fun ag=>
    Aa1 P N.Hq0 #[.pointer h,.pointer p,.pointer t] ag fun ah ai=>
    ∃ aj:(Option Addr),ah=(.pointer aj) ∧
    drM ai fun ak=>
    u ((i64.wrap (a.1+1)),()) ak)
  (J (()) b))
  (0,()) w:=by
 refine As0 (fun m s w=>s=((m:Int),())∧∃ M1:List Rw,Al1 (fun i A=>(Au1 (ent A i i) c.z).bind fun y=>some (Cd5 A i i y)) m (vals MA)=some (vals M1)∧Sq n (vals M1)∧Ho w0 w (mxB N.Hr0 N.Hq9 N.Ho7 N.Hl3 OA M1 R)) n ⟨rfl,MA,rfl,hqA,hS⟩ ?_ ?_
 rotate_left
 · rintro s w X ⟨rfl,M1,hf,hq,hS⟩
   dsimp only
   refine Ab7 (fun hc=>?_) (fun _=>?_)
   · simp at hc
   have:some (vals M1)=some V':=hf.symm.trans hd
   exact hJ M1 w (Option.some.inj this) hq hS
 rintro m s w X hk ⟨rfl,M1,hf,hq,hS⟩ hX
 dsimp only
 refine Ab7 (fun _=>?_) (fun hc=>?_)
 rotate_left
 · simp at hc;omega
 obtain ⟨V3,hV3,hf'⟩:=Ar5 hd hk hf
 obtain ⟨y,hy,hV3⟩:=bnd hV3
 obtain rfl:=Option.some.inj hV3
 obtain ⟨x,d,hx,hdd,hz,_⟩:=Ax5 hq hk hk
 rw [← hz] at hy
 refine Ce0 hS MIn.here hx rfl ?_
 intro b1 _
 refine Dd8 hS MIn.here hx hdd rfl ?_
 intro b2 _
 refine Ce0 hS MIn.here hx rfl ?_
 intro b3 _
 refine Dd8 hS MIn.here hx hdd rfl ?_
 intro b4 _
 refine Fx9 hS (Ag2 hm) hc rfl ?_
 intro b5 _
 refine Aa7 hS ?_;clear hS;intro w hS
 refine Bd4 H (hS.mbOut hx hdd) (Ent.bg (Eu2 hb)) hy ?_
 intro a4 n4 c4 w hS4
 have hS5:=Ho.mbIn (d':=⟨d.r,a4,n4,c4,y⟩) hx hdd rfl hS4
 refine ⟨_,rfl,?_⟩
 refine Aa7 hS5 ?_;intro w hS6
 refine hX _ _ ⟨by rw [wrU (by omega)],_,?_,?_,hS6⟩
 · rw [Aq4 hx];exact hf'
 · rw [Aq4 hx];exact At3 hq hk
end
end Go.Eng
/-
  inertia's rows: coefficients: the product and its trace. No condition.
-/
namespace Go.Eng
open Go
theorem Dz0 {M:List Rw} {i:Nat} {x:Rw} {h:Hd} {d:BgD} {V:Mt} {l:List Int} (hx:M[i]?=some x) (hv:vals M=V.set i l) (hi:i<V.length):vals (M.set i (h,x.2 ++ [d]))=V.set i (l ++ [d.z]):=by
 have e:=Bf2 hx
 rw [hv,AF hi] at e
 have e:=Option.some.inj e
 rw [Br4,hv,List.set_set]
 dsimp only
 rw [AM,← e]
 rfl
section
variable {N:Nums} {P:Program} (H:AllOk N P)
include H
abbrev MB (N:Nums) (O:Hd) (M:List Rw) (L:List It):List It:=mxB N.Hr0 N.Hq9 N.Ho7 N.Hl3 O M L
abbrev MI (N:Nums) (O:Hd) (M:List Rw) (Z:List It):Prop:=MIn N.Hr0 N.Hq9 N.Ho7 N.Hl3 O M Z
theorem Fp9 {w0 w:World} {R:List It} {n q i c:Nat} {O OA:Hd} {low:Value} {M MA NX:List Rw} {row:List Int} {J:Unit→World→Prop} (hn:n≤1073741824) (hi:i<n)
 (hqV:Sq n (vals M)) (hqA:Sq n (vals MA)) (hcl:cl q [.slice O.1 O.2.1 O.2.2,low] N.Hi4∈R) (hV:MI N O M R) (hA:MI N OA MA R)
 (hd:Cd2 n (vals M) (vals MA) i=some row) (hln:(vals NX).length=n) (h0:(vals NX).set i []=vals NX)
 (hS:Ho w0 w (MB N (some ⟨c,0,none⟩,n,n) NX R))
 (hJ:∀ (N1:List Rw) (g:World),vals N1=(vals NX).set i row→Ho w0 g (MB N (some ⟨c,0,none⟩,n,n) N1 R)→J () g) :
 Ac3 (σ:=Int×Unit) (fun f ai o=>
                   cond (decide (f.1<((n:Nat):Int)))
                   (Ac8 #[.bool false,.slice none 0 0] N.Hr0 o fun k aj=>
                    Ac8 #[.bool false,.slice none 0 0] N.Hr0 aj fun ak al=>
                    Ad7 (σ:=Unit) (fun am=>
                     Ac3 (σ:=Int×Unit) (fun a an b=>
                     cond (decide (a.1<((n:Nat):Int)))
                     (Ab6 (some ⟨q,0,none⟩) fun ao=>
                     ∃ (p:Option Addr) (r ap:Nat),b.cell? ao=some (.slice p r ap) ∧
                     (0:Int)≤(i:Int)∧(i:Int)<(r:Nat) ∧
                     Ab6 p fun aq=>
                     ∃ (t:Option Addr) (u ar:Nat),b.cell? (aq.add ((i:Int).toNat*1))=some (.slice t u ar) ∧
                     (0:Int)≤a.1∧a.1<(u:Nat) ∧
                     Ab6 t fun au=>
                     ∃ z:(Option Addr),b.cell? (au.add (a.1.toNat*1))=some (.pointer z) ∧
                     (0:Int)≤a.1∧a.1<(OA.2.1:Nat) ∧
                     Ab6 OA.1 fun av=>
                     ∃ (aa:Option Addr) (ab aw:Nat),b.cell? (av.add (a.1.toNat*1))=some (.slice aa ab aw) ∧
                     (0:Int)≤f.1∧f.1<(ab:Nat) ∧
                     Ab6 aa fun ax=>
                     ∃ ac:(Option Addr),b.cell? (ax.add (f.1.toNat*1))=some (.pointer ac) ∧
                     drM b fun ay=>
                     Aa1 P N.Hq7 #[.pointer (some ak),.pointer z,.pointer ac] ay fun az a0=>
                     ∃ ad:(Option Addr),az=(.pointer ad) ∧
                     drM a0 fun a1=>
                     Aa1 P N.Hq0 #[.pointer (some k),.pointer (some k),.pointer ad] a1 fun a3 a4=>
                     ∃ a5:(Option Addr),a3=(.pointer a5) ∧
                     drM a4 fun a6=>
                     an ((i64.wrap (a.1+1)),()) a6)
                     (am (()) b))
                     (0,()) al)
                    (fun bf ae=>
                     (0:Int)≤(i:Int)∧(i:Int)<(((n:Nat):Int).toNat:Nat) ∧
                     ∃ (af:Option Addr) (ag ah:Nat),ae.cell? ((⟨c,0,none⟩:Addr).add ((i:Int).toNat*1))=some (.slice af ag ah) ∧
                     Ac8 #[.pointer (some k)] N.Ho7 ae fun a7 a8=>
                     Bn8 N.Ho7 1 8 #[.pointer none] af ag ah (some a7) 1 a8 fun a9 ba bb bc=>
                     (0:Int)≤(i:Int)∧(i:Int)<(((n:Nat):Int).toNat:Nat) ∧
                     stM ((⟨c,0,none⟩:Addr).add ((i:Int).toNat*1)) (.slice a9 ba bb) bc fun be=>
                     ai ((i64.wrap (f.1+1)),()) be))
                   (J (()) o))
  (0,()) w:=by
 refine As0 (fun m s w=>s=((m:Int),())∧∃ (N1:List Rw) (l:List Int),Al1 (fun j l=>(Cw8 n (vals M) (vals MA) i j).bind fun x=>some (l ++ [x])) m []=some l∧l.length=m∧vals N1=(vals NX).set i l∧Ho w0 w (MB N (some ⟨c,0,none⟩,n,n) N1 R)) n ⟨rfl,NX,[],rfl,rfl,h0.symm,hS⟩ ?_ ?_
 rotate_left
 · rintro s w X ⟨rfl,N1,l,hf,hll,hv,hS⟩
   dsimp only
   refine Ab7 (fun hc=>?_) (fun _=>?_)
   · simp at hc
   have:some l=some row:=hf.symm.trans hd
   obtain rfl:=Option.some.inj this
   exact hJ N1 w hv hS
 rintro m s w X hm ⟨rfl,N1,l,hf,hll,hv,hS⟩ hX
 dsimp only
 refine Ab7 (fun _=>?_) (fun hc=>?_)
 rotate_left
 · simp at hc;omega
 obtain ⟨l',hl',hf'⟩:=Ar5 hd hm hf
 obtain ⟨v,hdot,hl'⟩:=bnd hl'
 obtain rfl:=Option.some.inj hl'
 have hN1:N1.length=n:=by rw [← An4,hv,AH];exact hln
 have hxi:N1[i]?=some (N1[i]'(by omega)):=AC _
 generalize (N1[i]'(by omega))=x at hxi
 have hxl:x.2.length=m:=by
  have e:=Bf2 hxi
  rw [hv,AF (by omega)] at e
  have:=congrArg List.length (Option.some.inj e)
  simp at this
  omega
 refine Ab2 hS ?_
 clear hS;intro rx w hS
 replace hS:=Ho.bgNew (E:=N.Hq9) hS
 refine Ab2 hS ?_
 clear hS;intro ry w hS
 replace hS:=Ho.bgNew (E:=N.Hq9) hS
 refine Aa9 (fun _ w=>∃ (a':Option Addr) (n' c':Nat),Ho w0 w (bg N.Hr0 N.Hq9 rx a' n' c' v::MB N (some ⟨c,0,none⟩,n,n) N1 R)) (fun J2 hJ2=>?_) ?_
 · exact Ft2 H hn hi hm hqV hqA (Ag2 hcl) hV.under hA.under hdot hS fun a' n' c' g h=>hJ2 _ _ ⟨a',n',c',h⟩
 rintro s w ⟨a',n',c',hS⟩
 rw [AB]
 refine ⟨by omega,by omega,?_⟩
 have hg:(N1.map AP)[((i:Nat):Int).toNat]?=some x.1:=by
  rw [AB,AI,hxi];rfl
 replace hS:=hS.mbPush
 refine ⟨_,_,_,Bv7 hS.mbOr rfl hg,?_⟩
 refine Ba4 (ks:=[rx]) (enc:=Bk3) (m:=1) hS rfl rfl ?_
 clear hS;intro pr w hS
 refine Fe4 (d':=⟨rx,a',n',c',v⟩) hS hxi (by omega) ?_
 clear hS;intro a2 c2 w hS
 refine ⟨by omega,by omega,?_⟩
 refine Dk4 hS hxi rfl ?_
 clear hS;intro w hS
 exact hX _ _ ⟨by rw [wrU (by omega)],_,_,hf',by simp [hll],Dz0 hxi hv (by omega),hS⟩
end
end Go.Eng
/-
  inertia's rows: what the pivot and a round do, place by place; signs tells the signs. No condition.
-/
namespace Go.Eng
open Go Go.Ine
theorem En4 {x y z:Int} (h:Au1 x y=some z):z=x+y:=by
 obtain ⟨_,h⟩:=Ag4 h
 obtain ⟨_,h⟩:=Ag4 h
 exact (Option.some.inj h).symm
theorem Fw9 {x y z:Int} (h:Ct9 x y=some z):z=x-y:=by
 obtain ⟨_,h⟩:=Ag4 h
 obtain ⟨_,h⟩:=Ag4 h
 exact (Option.some.inj h).symm
theorem Ep0 {x y z:Int} (h:Bt7 x y=some z):z=x*y:=by
 obtain ⟨_,h⟩:=Ag4 h
 obtain ⟨_,h⟩:=Ag4 h
 exact (Option.some.inj h).symm
theorem Fs4 {x y z:Int} (h:Cj0 x y=some z):z=x.tdiv y:=by
 unfold Cj0 at h
 split at h
 · cases h
 obtain ⟨_,h⟩:=Ag4 h
 obtain ⟨_,h⟩:=Ag4 h
 exact (Option.some.inj h).symm
theorem Au0 {α:Type} {f:Nat→α→Option α} (Q:Nat→α→Prop):∀ {n:Nat} {a b:α},Al1 f n a=some b→Q 0 a→(∀ k c d,k<n→Q k c→f k c=some d→Q (k+1) d)→Q n b
 | 0,a,b,h,e,_=>by obtain rfl:=Option.some.inj h;exact e
 | n+1,a,b,h,e,hs=>by
   obtain ⟨c,g,l⟩:=bnd (show (Al1 f n a).bind (f n)=some b from h)
   exact hs n c b (by omega) (Au0 Q g e fun k c d hk=>hs k c d (by omega)) l
theorem Cr0 {n row col:Nat} {V V':Mt} (hq:Sq n V) (hr:row<n) (hne:row≠col) (h:Dm5 n row col V=some V'):Sq n V'∧∀ i j,j<n→ent V' i j=if i=row then ent V i j+ent V col j else ent V i j:=by
 have:=Au0 (fun k W=>Sq n W∧∀ i j,j<n→ent W i j=if i=row∧j<k then ent V i j+ent V col j else ent V i j) h ⟨hq,fun i j _=>by rw [if_neg (by omega)]⟩ (by
  rintro k c d hk ⟨f,a⟩ g
  obtain ⟨y,hy,l⟩:=bnd g
  obtain rfl:=Option.some.inj l
  have hy:=En4 hy
  refine ⟨At3 f hr,fun i j hj=>?_⟩
  rw [Br1 f hr hk]
  by_cases e:i=row∧j=k
  · obtain ⟨rfl,rfl⟩:=e
    rw [if_pos ⟨rfl,rfl⟩,if_pos ⟨rfl,by omega⟩,hy,a _ _ hj,a _ _ hj,if_neg (by omega),if_neg (by omega)]
  · rw [if_neg e,a i j hj]
    by_cases b:i=row∧j<k
    · rw [if_pos b,if_pos ⟨b.1,by omega⟩]
    · rw [if_neg b,if_neg (by omega)])
 refine ⟨this.1,fun i j hj=>?_⟩
 rw [this.2 i j hj]
 by_cases e:i=row
 · rw [if_pos ⟨e,hj⟩,if_pos e]
 · rw [if_neg (by omega),if_neg e]
theorem Cu3 {n row col:Nat} {V V':Mt} (hq:Sq n V) (hr:row<n) (hne:row≠col) (h:Dl6 n row col V=some V'):Sq n V'∧∀ i j,i<n→ent V' i j=if j=row then ent V i j+ent V i col else ent V i j:=by
 have:=Au0 (fun k W=>Sq n W∧∀ i j,i<n→ent W i j=if j=row∧i<k then ent V i j+ent V i col else ent V i j) h ⟨hq,fun i j _=>by rw [if_neg (by omega)]⟩ (by
  rintro k c d hk ⟨f,a⟩ g
  obtain ⟨y,hy,l⟩:=bnd g
  obtain rfl:=Option.some.inj l
  have hy:=En4 hy
  refine ⟨At3 f hk,fun i j hi=>?_⟩
  rw [Br1 f hk hr]
  by_cases e:i=k∧j=row
  · obtain ⟨rfl,rfl⟩:=e
    rw [if_pos ⟨rfl,rfl⟩,if_pos ⟨rfl,by omega⟩,hy,a _ _ hi,a _ _ hi,if_neg (by omega),if_neg (by omega)]
  · rw [if_neg e,a i j hi]
    by_cases b:j=row∧i<k
    · rw [if_pos b,if_pos ⟨b.1,by omega⟩]
    · rw [if_neg b,if_neg (by omega)])
 refine ⟨this.1,fun i j hi=>?_⟩
 rw [this.2 i j hi]
 by_cases e:j=row
 · rw [if_pos ⟨e,hi⟩,if_pos e]
 · rw [if_neg (by omega),if_neg e]
theorem Du2 {α:Type} {l:List α} {a b i:Nat} {d x y:α} (ha:a<l.length) (hb:b<l.length) (hx:x=l.getD b d) (hy:y=l.getD a d):((l.set a x).set b y).getD i d=l.getD (swp a b i) d:=by
 subst hx hy
 unfold swp
 rw [AE]
 by_cases e:i=b
 · subst e
   rw [AF (by rw [AH];exact hb),AQ]
   by_cases c:i=a
   · subst c;rw [if_pos rfl]
   · rw [if_neg c,if_pos rfl]
 · rw [AG (by omega)]
   by_cases c:i=a
   · subst c
     rw [if_pos rfl,AF ha,AQ]
   · rw [if_neg c,if_neg e,AG (by omega),← AE]
theorem Ey4 {n:Nat} {V:Mt} (hq:Sq n V) {a b:Nat} (ha:a<n) (hb:b<n) (i j:Nat):ent (swR V a b) i j=ent V (swp a b i) j:=by
 unfold ent swR
 rw [Du2 (by rw [hq.1];exact ha) (by rw [hq.1];exact hb) rfl rfl]
theorem Fh4 {n:Nat} {V:Mt} (hq:Sq n V) {a b:Nat}:∀ {k:Nat},k≤n→∀ i,(swC a b k V).getD i []=if i<k then swL (V.getD i []) a b else V.getD i []
 | 0,_,i=>by rw [if_neg (by omega)];rfl
 | k+1,hk,i=>by
   have ih:=Fh4 hq (a:=a) (b:=b) (k:=k) (by omega)
   have hl:=(Eo4 hq (a:=a) (b:=b) (k:=k) (by omega)).1
   show ((swC a b k V).set k (swL ((swC a b k V).getD k []) a b)).getD i []=_
   by_cases e:i=k
   · subst e
     rw [AE,AF (by omega),AQ,ih,if_neg (by omega),if_pos (by omega)]
   · rw [AE,AG (by omega),← AE,ih]
     by_cases c:i<k
     · rw [if_pos c,if_pos (by omega)]
     · rw [if_neg c,if_neg (by omega)]
theorem Ez0 {n:Nat} {V:Mt} (hq:Sq n V) {a b:Nat} (ha:a<n) (hb:b<n) {i j:Nat} (hi:i<n):ent (swC a b n V) i j=ent V i (swp a b j):=by
 unfold ent
 rw [Fh4 hq (AY n),if_pos hi]
 unfold swL
 rw [Du2 (by rw [Ec9 hq hi];exact ha) (by rw [Ec9 hq hi];exact hb) rfl rfl]
theorem Cy2 {V:Mt} {i:Nat}:∀ {k j:Nat},Bo6 V i j k=none→∀ p,j≤p→p<j+k→ent V i p=0
 | 0,_,_,p,a,b=>by omega
 | k+1,j,h,p,a,b=>by
   rw [Bk9] at h
   split at h
   · cases h
   · rename_i c
     by_cases e:p=j
     · subst e;omega
     · exact Cy2 h p (by omega) (by omega)
theorem Cz3 {V:Mt} {i:Nat}:∀ {k j p:Nat},Bo6 V i j k=some p→ent V i p≠0
 | 0,_,_,h=>by cases h
 | k+1,j,p,h=>by
   rw [Bk9] at h
   split at h
   · rename_i a;obtain rfl:=Option.some.inj h;exact a
   · exact Cz3 h
theorem Cx4 {V:Mt} {at_:Nat}:∀ {k i p q:Nat},Bm4 V at_ i k=some (p,q)→ent V p q≠0
 | 0,_,_,_,h=>by cases h
 | k+1,i,p,q,h=>by
   rw [Bc6] at h
   split at h
   · rename_i j hj
     cases h
     exact Cz3 hj
   · exact Cx4 h
theorem Cx6 {V:Mt} {at_:Nat}:∀ {k i:Nat},at_≤i→Bm4 V at_ i k=none→∀ p q,i≤p→p<i+k→at_≤q→q<p→ent V p q=0
 | 0,_,_,_,p,q,b,c,_,_=>by omega
 | k+1,i,hi,h,p,q,b,c,a,f=>by
   rw [Bc6] at h
   split at h
   · cases h
   · rename_i hj
     by_cases e:p=i
     · subst e;exact Cy2 hj q a (by omega)
     · exact Cx6 (by omega) h p q (by omega) (by omega) a f
theorem Bv4 {V:Mt}:∀ {k i:Nat},By3 V i k=none→∀ p,i≤p→p<i+k→ent V p p=0
 | 0,_,_,p,a,b=>by omega
 | k+1,i,h,p,a,b=>by
   rw [Bw2] at h
   split at h
   · cases h
   · rename_i c
     by_cases e:p=i
     · subst e;omega
     · exact Bv4 h p (by omega) (by omega)
end Go.Eng
/-
  inertia's rows: coefficients, walked. No condition.
-/
namespace Go.Eng
open Go
theorem Ez4 {I E tL:Nat} {X Y:List It} {h h':Hd} {ds:List BgD} {d:BgD} {w0 w:World} (hS:Ho w0 w (sl h'.1 h'.2.1 h'.2.2 ((ds.map BgD.r ++ [d.r]).map Bk3) tL::(X++(bg I E d.r d.a d.n d.c d.z::(ds.map (bgI I E)++Y))))):Ho w0 w (X++(Bk4 I E tL (h',ds ++ [d])++Y)):=by
 refine hS.perm ?_
 unfold Bk4
 dsimp only
 have b:(ds ++ [d]).map BgD.r=ds.map BgD.r ++ [d.r]:=by rw [AM];rfl
 have e:(ds ++ [d]).map (bgI I E)=ds.map (bgI I E) ++ [bgI I E d]:=by rw [AM];rfl
 rw [b,e]
 refine List.Perm.trans ?_ List.perm_middle.symm
 refine .cons _ (List.Perm.append_left X ?_)
 show (bgI I E d::(ds.map (bgI I E)++Y)).Perm ((ds.map (bgI I E) ++ [bgI I E d])++Y)
 rw [AR]
 exact List.perm_middle.symm
theorem Co7 {n:Nat} {V A:Mt} {i:Nat} {row:List Int} (h:Cd2 n V A i=some row):row.length=n:=
 Au0 (fun m (l:List Int)=>l.length=m) h rfl (by
  rintro m c d _ a b
  obtain ⟨y,_,e⟩:=bnd b
  obtain rfl:=Option.some.inj e
  simp [a])
theorem Ed8 {n:Nat} {V A:Mt} {s:Mt×Int} (h:Dm1 n V A=some s):Sq n s.1:=by
 have:=Au0 (fun i (s:Mt×Int)=>s.1.length=n∧∀ p l,p<i→s.1[p]?=some l→l.length=n) h ⟨by simp,fun p l hp=>by omega⟩ (by
  rintro m c d hm ⟨b,f⟩ a
  obtain ⟨row,hr,a⟩:=bnd a
  obtain ⟨t,_,a⟩:=bnd a
  obtain rfl:=Option.some.inj a
  refine ⟨by rw [AH];exact b,fun p l hp hl=>?_⟩
  by_cases e:p=m
  · subst e
    rw [AF (by omega)] at hl
    cases hl;exact Co7 hr
  · rw [AG (by omega)] at hl
    exact f p l (by omega) hl)
 refine ⟨this.1,fun l hl=>?_⟩
 obtain ⟨p,hp,rfl⟩:=List.mem_iff_getElem.1 hl
 exact this.2 p _ (by rw [← this.1];exact hp) (AC hp)
section
variable {N:Nums} {P:Program} (H:AllOk N P)
include H
theorem Fo5 {w0 w:World} {L:List It} {q:Nat} {O:Hd} {low:Value} {M:List Rw} {n:Nat} {res:List Int} (hq:Sq n (vals M)) (hn:n≤1073741824) (hx:Fa0 n (vals M)=some res)
 (hS:Ho w0 w (MQ N q O low M L)) {K:Value→World→Prop}
 (hK:∀ (h:Hd) (ds:List BgD) (g:World),ds.map BgD.z=res→Ho w0 g (Bk4 N.Hr0 N.Hq9 N.Ho7 (h,ds)++MQ N q O low M L)→K (.slice h.1 h.2.1 h.2.2) g) :
 Aa1 P N.Hg1 #[.pointer (some ⟨q,0,none⟩)] w K:=by
 refine H.p_inertia_rows_coefficients _ w _ ?_
 unfold Ao1
 refine Ac0 ⟨_,_,_,hS.mxHd,?_⟩
 have hO:=hS.mxLen
 have hMl:M.length=n:=by rw [← An4];exact hq.1
 rw [hO,hMl]
 refine Bp1 H hS (u0:=1) (by decide) ?_
 clear hS;intro o a0 n0 c0 w hS
 refine ⟨_,rfl,?_⟩
 refine Ba4 (ks:=[o]) (enc:=Bk3) (m:=1) hS rfl rfl ?_
 clear hS;intro r6 w hS
 have hS:Ho w0 w (Bk4 N.Hr0 N.Hq9 N.Ho7 ((some ⟨r6,0,none⟩,1,1),[⟨o,a0,n0,c0,1⟩])++MQ N q O low M L):=hS
 refine Ge0 (I:=N.Hr0) (E:=N.Hq9) (tL:=N.Ho7) hS (by omega) ?_
 clear hS;intro r8 w hS
 obtain ⟨s1,hfold,hx⟩:=bnd hx
 obtain rfl:=Option.some.inj hx
 refine Aa9 (fun _ w=>∃ MA:List Rw,vals MA=List.replicate n (List.replicate n 0)∧Ho w0 w (MB N (some ⟨r8,0,none⟩,n,n) MA (Bk4 N.Hr0 N.Hq9 N.Ho7 ((some ⟨r6,0,none⟩,1,1),[⟨o,a0,n0,c0,1⟩])++MQ N q O low M L))) (fun J hJ=>?_) ?_
 · exact Ei6 H hn hS fun M1 g hv h=>hJ _ _ ⟨M1,hv,h⟩
 clear hS
 rintro s w ⟨MA,hvA,hS⟩
 have af:Sq n (List.replicate n (List.replicate n (0:Int))):=⟨by simp,fun l hl=>by rw [List.eq_of_mem_replicate hl];simp⟩
 refine Aa9 (fun s w=>∃ (h:Hd) (ds:List BgD),s=((h.1,h.2.1,h.2.2),())∧ds.map BgD.z=s1.1∧Ho w0 w (Bk4 N.Hr0 N.Hq9 N.Ho7 (h,ds)++MQ N q O low M L)) (fun J hJ=>?_) ?_
 rotate_left
 · rintro s w ⟨h,ds,rfl,hv,hS⟩
   exact hK h ds w hv hS
 refine As0 (fun k s w=>∃ (h OA:Hd) (ds:List BgD) (MA:List Rw),s=((h.1,h.2.1,h.2.2),(OA.1,OA.2.1,OA.2.2),(k:Int),())∧ds.length=k+1∧Sq n (vals MA)∧Al1 (Bz8 n (vals M)) k ([1],List.replicate n (List.replicate n 0))=some (ds.map BgD.z,vals MA) ∧
  Ho w0 w (MB N OA MA (Bk4 N.Hr0 N.Hq9 N.Ho7 (h,ds)++MQ N q O low M L))) n
  ⟨(some ⟨r6,0,none⟩,1,1),(some ⟨r8,0,none⟩,n,n),[⟨o,a0,n0,c0,1⟩],MA,by simp,rfl,by rw [hvA];exact af,by rw [hvA];rfl,hS⟩ ?_ ?_
 rotate_left
 · rintro s w X ⟨h,OA,ds,MA,rfl,hl,hqA,hf,hS⟩
   dsimp only
   refine Ab7 (fun hc=>?_) (fun _=>?_)
   · simp at hc
   have:some (ds.map BgD.z,vals MA)=some s1:=hf.symm.trans hfold
   obtain rfl:=Option.some.inj this
   refine hJ _ _ ⟨h,ds,rfl,rfl,hS.sub ?_⟩
   exact .cons _ (AJ _ _)
 clear hS hvA
 rintro k s w X hk ⟨h,OA,ds,MA,rfl,hl,hqA,hf,hS⟩ hX
 dsimp only
 refine Ab7 (fun _=>?_) (fun hc=>?_)
 rotate_left
 · simp at hc;omega
 obtain ⟨s2,hstep,ag⟩:=Ar5 hfold hk hf
 obtain ⟨A1,hA1,hstep⟩:=bnd hstep
 obtain ⟨⟨NV,tr⟩,hnext,hstep⟩:=bnd hstep
 obtain ⟨k1,ah,hstep⟩:=bnd hstep
 obtain ⟨cq,hcq,hstep⟩:=bnd hstep
 obtain ⟨cn,hcn,hstep⟩:=bnd hstep
 obtain rfl:=Option.some.inj hstep
 have hdk:ds[k]?=some (ds[k]'(by omega)):=AC _
 generalize (ds[k]'(by omega))=ck at hdk
 have hck:(ds.map BgD.z).getD k 0=ck.z:=Br3 _ hdk 0
 rw [hck] at hA1
 refine Aa9 (fun _ w=>∃ M1:List Rw,vals M1=A1∧Sq n (vals M1)∧Ho w0 w (MB N OA M1 (Bk4 N.Hr0 N.Hq9 N.Ho7 (h,ds)++MQ N q O low M L))) (fun J2 hJ2=>?_) ?_
 · exact Fi5 H hn hqA (AL _ (AD ..)) (AL _ (AA _ (List.mem_map.2 ⟨ck,AW hdk,rfl⟩))) hdk hA1 hS fun M1 g hv aa f=>hJ2 _ _ ⟨M1,hv,aa,f⟩
 clear hS
 rintro s w ⟨M1,rfl,aa,hS⟩
 refine Ge0 (I:=N.Hr0) (E:=N.Hq9) (tL:=N.Ho7) hS (by omega) ?_
 clear hS;intro b w hS
 refine Ab2 hS ?_
 clear hS;intro rt w hS
 replace hS:=(Ho.bgNew (E:=N.Hq9) hS).mbPush
 generalize hR:MB N OA M1 (Bk4 N.Hr0 N.Hq9 N.Ho7 (h,ds)++MQ N q O low M L)=R at *
 have hcl:cl q [.slice O.1 O.2.1 O.2.2,low] N.Hi4∈R:=by rw [← hR];exact Ag2 (AK _ (AD ..))
 have hVin:MI N O M R:=by rw [← hR];exact (MIn.all.app).under
 have hAin:MI N OA M1 R:=by rw [← hR];exact MIn.here
 refine Aa9 (fun _ w=>∃ (NX:List Rw) (a n' c:_),vals NX=NV∧Ho w0 w (MB N (some ⟨b,0,none⟩,n,n) NX (bg N.Hr0 N.Hq9 rt a n' c tr::R))) (fun J3 hJ3=>?_) ?_
 · refine As0 (fun i s w=>s=((i:Int),())∧∃ (NX:List Rw) (t:Int) (a:Option Addr) (n' c:Nat),Al1 (fun i s=>(Cd2 n (vals M) (vals M1) i).bind fun r=>(Au1 s.2 (r.getD i 0)).bind fun t=>some (s.1.set i r,t)) i (List.replicate n [],0)=some (vals NX,t)∧(vals NX).length=n∧(∀ p,i≤p→p<n→(vals NX)[p]?=some []) ∧
    Ho w0 w (MB N (some ⟨b,0,none⟩,n,n) NX (bg N.Hr0 N.Hq9 rt a n' c t::R))) n
    ⟨rfl,List.replicate n ((none,0,0),[]),0,none,0,0,by
     have:vals (List.replicate n (((none:Option Addr),0,0),([]:List BgD)))=List.replicate n []:=by unfold vals;rw [AO];rfl
     rw [this];rfl,by rw [An4];simp,fun p _ hp=>by unfold vals;rw [AO,AN,if_pos hp];rfl,hS⟩ ?_ ?_
   rotate_left
   · rintro s w X2 ⟨rfl,NX,t,a,n',c,ab,hln,hz,hS⟩
     dsimp only
     refine Ab7 (fun hc=>?_) (fun _=>?_)
     · simp at hc
     have:some (vals NX,t)=some (NV,tr):=ab.symm.trans hnext
     cases this
     exact hJ3 _ _ ⟨NX,a,n',c,rfl,hS⟩
   clear hS
   rintro i s w X2 hi ⟨rfl,NX,t,a,n',c,ab,hln,hz,hS⟩ hX2
   dsimp only
   refine Ab7 (fun _=>?_) (fun hc=>?_)
   rotate_left
   · simp at hc;omega
   obtain ⟨s3,hrow0,ae⟩:=Ar5 hnext hi ab
   obtain ⟨row,hrow,ac⟩:=bnd hrow0
   obtain ⟨t2,ad,ac⟩:=bnd ac
   obtain rfl:=Option.some.inj ac
   dsimp only at ad ae
   have h0:(vals NX).set i []=vals NX:=by
    refine AT fun p=>?_
    rw [AX]
    split
    · rename_i e
      subst e
      rw [if_pos (by omega),hz i (AY _) hi]
    · rfl
   refine Aa9 (fun _ w=>∃ N1:List Rw,vals N1=(vals NX).set i row∧Ho w0 w (MB N (some ⟨b,0,none⟩,n,n) N1 (bg N.Hr0 N.Hq9 rt a n' c t::R))) (fun J4 hJ4=>?_) ?_
   · exact Fp9 H hn hi hq aa (AA _ hcl) hVin.cons hAin.cons hrow hln h0 hS fun N1 g hv f=>hJ4 _ _ ⟨N1,hv,f⟩
   clear hS
   rintro s w ⟨N1,hv,hS⟩
   have hrl:row.length=n:=Co7 hrow
   have aj:=congrArg (fun V:Mt=>V[i]?) hv
   have hN1:N1.length=n:=by rw [← An4,hv,AH];exact hln
   have hxi:N1[i]?=some (N1[i]'(by omega)):=AC _
   generalize (N1[i]'(by omega))=x at hxi
   have hxz:x.2.map BgD.z=row:=by
    have e:=Bf2 hxi
    rw [hv,AF (by omega)] at e
    exact (Option.some.inj e).symm
   have hxl:x.2.length=n:=by rw [← hrl,← hxz];simp
   have hdi:x.2[i]?=some (x.2[i]'(by omega)):=AC _
   generalize (x.2[i]'(by omega))=d at hdi
   have hdz:row.getD i 0=d.z:=by rw [← hxz];exact Br3 _ hdi 0
   rw [AB]
   refine ⟨by omega,by omega,?_⟩
   have hg:(N1.map AP)[((i:Nat):Int).toNat]?=some x.1:=by
    rw [AB,AI,hxi];rfl
   refine ⟨_,_,_,Bv7 hS.mbOr rfl hg,?_⟩
   refine Dd8 hS MIn.here hxi hdi rfl ?_
   intro b1 _
   rw [hdz] at ad
   refine Bd4 H hS.mbPop ((MIn.here).ent hxi hdi) ad ?_
   clear hS;intro a2 n2 c2 w hS
   refine ⟨_,rfl,?_⟩
   refine hX2 _ _ ⟨by rw [wrU (by omega)],N1,t2,a2,n2,c2,by rw [hv];exact ae,by rw [hv,AH];exact hln,fun p ak ai=>by rw [hv,AG (by omega)];exact hz p (by omega) ai,hS.mbPush⟩
 clear hS
 rintro s w ⟨NX,a,n',c,rfl,hS⟩
 rw [wrU (by omega)]
 refine Bp1 H hS (u0:=k1) (by unfold Bv2;rw [ah];rfl) ?_
 clear hS;intro r9 a9 n9 c9 w hS
 refine ⟨_,rfl,?_⟩
 refine Cu2 H hS.mbFlip (Ent.bg (Ag2 mp0)) hcq ?_
 clear hS;intro a2 n2 c2 w hS
 refine ⟨_,rfl,?_⟩
 refine Cf4 H hS hcn ?_
 clear hS;intro u v c3 w hS
 refine ⟨_,rfl,?_⟩
 refine Ba4 (ks:=[rt]) (enc:=Bk3) (m:=1) hS rfl rfl ?_
 clear hS;intro pr w hS
 -- what was ahead is let go; the list of coefficients comes to the front
 have hlit:rdA ([rt].map Bk3) (some ⟨pr,0,none⟩) 1 1 w:=slA.rd (hS.hold _ (AD ..))
 have hS2:Ho w0 w (sl h.1 h.2.1 h.2.2 ((ds.map BgD.r).map Bk3) N.Ho7::(MB N (some ⟨b,0,none⟩,n,n) NX []++(bg N.Hr0 N.Hq9 rt u v c3 cn::(ds.map (bgI N.Hr0 N.Hq9)++MQ N q O low M L)))):=by
  have f:=hS.drop
  rw [← hR] at f
  have h2:Ho w0 w (bg N.Hr0 N.Hq9 rt u v c3 cn::(MB N (some ⟨b,0,none⟩,n,n) NX []++(Bk4 N.Hr0 N.Hq9 N.Ho7 (h,ds)++MQ N q O low M L))):=by
   refine f.sub (.cons_cons _ ?_)
   unfold MB mxB
   rw [AZ]
   refine .cons_cons _ (List.Sublist.append (List.Sublist.refl _) ?_)
   exact .cons _ (.cons _ (AJ _ _))
  refine h2.perm ?_
  unfold Bk4
  refine (List.Perm.cons _ AU).trans ((List.Perm.swap _ _ _).trans (.cons _ ?_))
  exact List.perm_middle.symm
 clear hS
 refine Bv8 (ws:=ds.map BgD.r) (ks:=[rt]) hS2 (by simp;omega) hlit (fun _=>rfl) rfl ?_
 clear hS2 hlit;intro a' c' w hS
 have hS:=Ez4 (h:=h) (h':=(a',h.2.1+1,c')) (d:=⟨rt,u,v,c3,cn⟩) hS
 refine hX _ _ ⟨(a',h.2.1+1,c'),(some ⟨b,0,none⟩,n,n),ds ++ [⟨rt,u,v,c3,cn⟩],NX,by rw [AB],by simp [hl],Ed8 hnext,?_,?_⟩
 · rw [AM];exact ag
 · have e:∀ Z:List It,MB N (some ⟨b,0,none⟩,n,n) NX []++Z=MB N (some ⟨b,0,none⟩,n,n) NX Z:=fun Z=>by
    unfold MB mxB;rw [AZ];rfl
   rw [e] at hS
   exact hS
end
end Go.Eng
/-
  inertia: scaled in plain Lean. No condition.
-/
namespace Go.Eng
open Go
def Cd1:List Dy→Int→Int
 | [],e=>e
 | d::D,e=>Cd1 D (cond (decide (((d.2.1.length:Nat):Int)>0)) (if d.2.2<e then d.2.2 else e) e)
def Ez7 (n:Nat) (l:List Dy) (x:Dy) (low:Int) (i j:Nat):Option Int:=
 (Ah4 (l.getD (i*n+j) (false,[],0)).1 (l.getD (i*n+j) (false,[],0)).2.1 (l.getD (i*n+j) (false,[],0)).2.2 low).bind fun y=>
  cond ((i:Int)==(j:Int)) ((Ah4 x.1 x.2.1 x.2.2 low).bind fun z=>Ct9 y z) (some y)
def Cs7 (s:Int×Int) (v:Int):Option (Int×Int):=
 cond (sgn v != 0) ((Af2 v).bind fun t=>(Be1 v).bind fun b=>some ((if i64.wrap t<s.1 then i64.wrap t else s.1),(if b>s.2 then b else s.2))) (some s)
def Et3 (n:Nat) (l:List Dy) (x:Dy) (low:Int) (i:Nat) (s:Int×Int):Option (List Int×(Int×Int)):=
 Al1 (fun j r=>(Ez7 n l x low i j).bind fun v=>(Cs7 r.2 v).bind fun s'=>some (r.1 ++ [v],s')) n ([],s)
def Gg1 (n:Nat) (l:List Dy) (x:Dy) (low:Int):Option (Mt×(Int×Int)):=
 Al1 (fun i r=>(Et3 n l x low i r.2).bind fun o=>some (r.1.set i o.1,o.2)) n (List.replicate n [],(1073741824,0))
def Ey6 (n:Nat) (least:Int):Mt→Option Mt:=
 Al1 (fun i V=>Al1 (fun j V=>(Bi9 (ent V i j) (u64.wrap least)).bind fun y=>some (Cd5 V i j y)) n V) n
def Bl3 (n:Nat) (l:List Dy) (x:Dy):Option (Mt×Int×Bool):=
 (Gg1 n l x (Cd1 (l ++ [x]) 65536)).bind fun o=>cond (o.2.2==0) (some (o.1,Cd1 (l ++ [x]) 65536,true))
  ((Ey6 n o.2.1 o.1).bind fun V=>some (V,i64.wrap (Cd1 (l ++ [x]) 65536+o.2.1),decide (i64.wrap (i64.wrap (o.2.2-o.2.1)*(n:Int))≤8192)))
theorem Fk4 (D:List Dy) (d:Dy):∀ e,Cd1 (D ++ [d]) e=cond (decide (((d.2.1.length:Nat):Int)>0)) (if d.2.2<Cd1 D e then d.2.2 else Cd1 D e) (Cd1 D e):=by
 induction D with
 | nil=>intro e;rfl
 | cons x D ih=>intro e;exact ih _
theorem Fg8 (D:List Dy) {k:Nat} {d:Dy} (h:D[k]?=some d) (e:Int):Cd1 (D.take (k+1)) e=cond (decide (((d.2.1.length:Nat):Int)>0)) (if d.2.2<Cd1 (D.take k) e then d.2.2 else Cd1 (D.take k) e) (Cd1 (D.take k) e):=by
 rw [List.take_add_one,h]
 exact Fk4 _ _ e
end Go.Eng
/-
  inertia: scaled: the least exponent. No condition.
-/
namespace Go.Eng
open Go
section
variable {N:Nums} {P:Program} (H:AllOk N P)
include H
theorem Fs9 {w0 w:World} {Z:List It} {e m c:Nat} {a:Option Addr} {S:Value} {l:Int} {D:List Dy} {hh:List Hd} {J:Unit→World→Prop} (hm:D.length≤1073741824)
 (hD:Ent Z (rdA (dyC D hh) a (m*3) (c*3))) (g:AllD Z D hh) (hS:Ho w0 w (cl e [S,.int .i64 l] N.Hi4::Z))
 (hJ:∀ v:World,Ho w0 v (cl e [S,.int .i64 (Cd1 D l)] N.Hi4::Z)→J () v) :
 Ac3 (σ:=Int×Unit) (fun f ag n=>
     cond (decide (f.1<((m:Nat):Int)))
     (Ad7 (σ:=Unit) (fun ah=>
      (0:Int)≤f.1∧f.1<(m:Nat) ∧
      Ab6 a fun r=>
      ∃ z:Bool,n.cell? (r.add (f.1.toNat*3))=some (.bool z) ∧
      ∃ (aa:Option Addr) (ab ac:Nat),n.cell? ((r.add (f.1.toNat*3)).add 1)=some (.slice aa ab ac) ∧
      ∃ ad:Int,n.cell? ((r.add (f.1.toNat*3)).add 2)=some (.int .i64 ad) ∧
      Ac8 #[.bool false,.slice none 0 0,.int .i64 0] N.Hs7 n fun o ai=>
      stM o (.bool z) ai fun aj=>
      stM (o.add 1) (.slice aa ab ac) aj fun ak=>
      stM (o.add 2) (.int .i64 ad) ak fun p=>
      ∃ (al:Option Addr) (ae am:Nat),p.cell? (o.add 1)=some (.slice al ae am) ∧
      Ad7 (σ:=Unit) (fun af=>
       cond (decide (((ae:Nat):Int)>0))
       (∃ t:Int,p.cell? ((⟨e,0,none⟩:Addr).add 1)=some (.int .i64 t) ∧
        ∃ u:Int,p.cell? (o.add 2)=some (.int .i64 u) ∧
        stM ((⟨e,0,none⟩:Addr).add 1) (.int .i64 (if u<t then u else t)) p fun an=>
        af (()) an)
       (af (()) p))
      (fun ap w64=>
       ah (()) w64))
      (fun aq ao=>
       ag ((i64.wrap (f.1+1)),()) ao))
     (J (()) n))
  (0,()) w:=by
 have hmD:m=D.length:=by
  have:=(hD.now (fun _ h=>AA _ h) hS).len
  rw [Al7 g.len] at this;omega
 subst hmD
 refine As0 (fun k s w=>s=((k:Int),())∧Ho w0 w (cl e [S,.int .i64 (Cd1 (D.take k) l)] N.Hi4::Z)) D.length ⟨rfl,hS⟩ ?_ ?_
 rotate_left
 · rintro s w X ⟨rfl,hS⟩
   dsimp only
   refine Ab7 (fun hc=>?_) (fun _=>?_)
   · simp at hc
   rw [List.take_length] at hS
   exact hJ w hS
 rintro k s w X hk ⟨rfl,hS⟩ hX
 dsimp only
 refine Ab7 (fun _=>?_) (fun hc=>?_)
 rotate_left
 · simp at hc;omega
 have hdk:D[k]?=some D[k]:=AC hk
 generalize D[k]=d at hdk
 obtain ⟨gk,hgk,hek⟩:=g.get hdk
 have tk:(((k:Nat):Int)).toNat=k:=AB _
 refine Aa9 (fun _ w=>Ho w0 w (cl e [S,.int .i64 (Cd1 (D.take (k+1)) l)] N.Hi4::Z)) (fun J2 hJ2=>?_) ?_
 rotate_left
 · rintro s w hS
   exact hX _ _ ⟨by rw [wrU (by omega)],hS⟩
 have hr:=hD.now (fun _ h=>AA _ h) hS
 refine Ah3 g.len hr (by omega) (by rw [tk];exact hk) ?_
 intro b hb
 refine ⟨_,Bq3 hr hb (by rw [tk];exact hdk) (by rw [tk];exact hgk),_,_,_,Bm9 hr hb (by rw [tk];exact hdk) (by rw [tk];exact hgk),_,Bj1 hr hb (by rw [tk];exact hdk) (by rw [tk];exact hgk),?_⟩
 have hgl:gk.2.1=d.2.1.length:=by
  have:=(hek.now (fun _ h=>AA _ h) hS).len
  simpa using this
 refine Ab2 hS ?_;clear hS;intro ar w hS
 refine Aa8 hS rfl rfl ?_;clear hS;intro w hS
 refine Aa8 hS rfl rfl ?_;clear hS;intro w hS
 refine Aa8 hS rfl rfl ?_;clear hS;intro w hS
 refine ⟨_,_,_,hS.cel mp0 (i:=1) rfl,?_⟩
 refine Aa9 (fun _ w=>Ho w0 w (cl e [S,.int .i64 (Cd1 (D.take (k+1)) l)] N.Hi4::Z)) (fun J3 hJ3=>?_) (fun s w h=>hJ2 _ _ h)
 rw [Fg8 D hdk] at hJ3
 rw [hgl]
 refine Ab7 (fun hc=>?_) (fun hc=>?_)
 · rw [hc,cT] at hJ3
   refine ⟨_,hS.cel mp1 (i:=1) rfl,_,hS.cel mp0 (i:=2) rfl,?_⟩
   refine Aa8 hS.drop rfl rfl ?_;clear hS;intro w hS
   exact hJ3 _ _ hS
 · rw [hc,cF] at hJ3
   exact hJ3 _ _ hS.drop
end
end Go.Eng
/-
  inertia: scaled: the shift. No condition.
-/
namespace Go.Eng
open Go
section
variable {N:Nums} {P:Program} (H:AllOk N P)
include H
theorem Es4 {w0 w:World} {R:List It} {n:Nat} {O:Hd} {M:List Rw} {least:Int} {V':Mt} {J:Unit→World→Prop} (hn:n≤1073741824) (hq:Sq n (vals M)) (hd:Ey6 n least (vals M)=some V')
 (hS:Ho w0 w (MB N O M R))
 (hJ:∀ (M1:List Rw) (w1:World),vals M1=V'→Sq n (vals M1)→Ho w0 w1 (MB N O M1 R)→J () w1) :
 Ac3 (σ:=Int×Unit) (fun o aj aa=>
  cond (decide (o.1<((O.2.1:Nat):Int)))
  ((0:Int)≤o.1∧o.1<(O.2.1:Nat) ∧
    Ab6 O.1 fun ak=>
    ∃ (ah:Option Addr) (ab al:Nat),aa.cell? (ak.add (o.1.toNat*1))=some (.slice ah ab al) ∧
    Ad7 (σ:=Unit) (fun ac=>
     Ac3 (σ:=Int×Unit) (fun e ad f=>
      cond (decide (e.1<((ab:Nat):Int)))
      ((0:Int)≤e.1∧e.1<(ab:Nat) ∧
        Ab6 ah fun ae=>
        ∃ g:(Option Addr),f.cell? (ae.add (e.1.toNat*1))=some (.pointer g) ∧
        Aa1 P N.Hr1 #[.pointer g,.pointer g,.int .u64 (u64.wrap least)] f fun t u=>
        ∃ v:(Option Addr),t=(.pointer v) ∧
        ad ((i64.wrap (e.1+1)),()) u)
      (ac (()) f))
     (0,()) aa)
    (fun am af=>
     aj ((i64.wrap (o.1+1)),()) af))
  (J (()) aa))
  (0,()) w:=by
 have hOl:O.2.1=n:=by rw [hS.mbLen,← An4];exact hq.1
 rw [hOl]
 refine As0 (fun k s w=>s=((k:Int),())∧∃ M1:List Rw,Al1 (fun i V=>Al1 (fun j V=>(Bi9 (ent V i j) (u64.wrap least)).bind fun y=>some (Cd5 V i j y)) n V) k (vals M)=some (vals M1)∧Sq n (vals M1)∧Ho w0 w (MB N O M1 R)) n ⟨rfl,M,rfl,hq,hS⟩ ?_ ?_
 rotate_left
 · rintro s w X ⟨rfl,M1,hf,z,hS⟩
   dsimp only
   refine Ab7 (fun hc=>?_) (fun _=>?_)
   · simp at hc
   have:some (vals M1)=some V':=hf.symm.trans hd
   exact hJ M1 w (Option.some.inj this) z hS
 clear hS
 rintro k s w X hk ⟨rfl,M1,hf,z,hS⟩ hX
 dsimp only
 refine Ab7 (fun _=>?_) (fun hc=>?_)
 rotate_left
 · simp at hc;omega
 obtain ⟨V2,hrow,an⟩:=Ar5 hd hk hf
 obtain ⟨x,hx,hxl⟩:=El9 z hk
 have hrw:=Ce0 (K:=fun a s l c=>Ad7 (σ:=Unit) (fun ac=>
  Ac3 (σ:=Int×Unit) (fun e ad f=>
   cond (decide (e.1<((l:Nat):Int)))
   ((0:Int)≤e.1∧e.1<(l:Nat) ∧
     Ab6 s fun ae=>
     ∃ g:(Option Addr),f.cell? (ae.add (e.1.toNat*1))=some (.pointer g) ∧
     Aa1 P N.Hr1 #[.pointer g,.pointer g,.int .u64 (u64.wrap least)] f fun t u=>
     ∃ v:(Option Addr),t=(.pointer v) ∧
     ad ((i64.wrap (e.1+1)),()) u)
   (ac (()) f))
  (0,()) w)
  (fun am af=>
   X ((i64.wrap ((k:Int)+1)),()) af)) hS MIn.here hx rfl (fun b _=>?_)
 · rw [hOl] at hrw;exact hrw
 have hxn:x.1.2.1=n:=by
  have:=(hS.mbRr hx).len
  simp at this;omega
 rw [hxn]
 refine Aa9 (fun _ w=>∃ M2:List Rw,vals M2=V2∧Sq n (vals M2)∧Ho w0 w (MB N O M2 R)) (fun J2 hJ2=>?_) ?_
 rotate_left
 · rintro s w ⟨M2,rfl,h,hS⟩
   exact hX _ _ ⟨by rw [wrU (by omega)],M2,an,h,hS⟩
 refine As0 (fun m s w=>s=((m:Int),())∧∃ (M2:List Rw) (ds:List BgD),M2[k]?=some (x.1,ds)∧Al1 (fun j V=>(Bi9 (ent V k j) (u64.wrap least)).bind fun y=>some (Cd5 V k j y)) m (vals M1)=some (vals M2)∧Sq n (vals M2)∧Ho w0 w (MB N O M2 R)) n ⟨rfl,M1,x.2,hx,rfl,z,hS⟩ ?_ ?_
 rotate_left
 · rintro s w X2 ⟨rfl,M2,ds,hM2,ag,h,hS⟩
   dsimp only
   refine Ab7 (fun hc=>?_) (fun _=>?_)
   · simp at hc
   have:some (vals M2)=some V2:=ag.symm.trans hrow
   exact hJ2 _ _ ⟨M2,Option.some.inj this,h,hS⟩
 clear hS
 rintro m s w X2 hm ⟨rfl,M2,ds,hM2,ag,h,hS⟩ hX2
 dsimp only
 refine Ab7 (fun _=>?_) (fun hc=>?_)
 rotate_left
 · simp at hc;omega
 obtain ⟨V4,hV4,ao⟩:=Ar5 hrow hm ag
 obtain ⟨y,hy,hV4⟩:=bnd hV4
 obtain rfl:=Option.some.inj hV4
 obtain ⟨x2,d,ai,hdd,hz,_⟩:=Ax5 h (i:=k) (j:=m) hk hm
 rw [hM2] at ai;cases ai
 rw [← hz] at hy
 have hp:=Dd8 (K:=fun a p=>Aa1 P N.Hr1 #[.pointer p,.pointer p,.int .u64 (u64.wrap least)] w fun t u=>
  ∃ v:(Option Addr),t=(.pointer v) ∧
  X2 ((i64.wrap ((m:Int)+1)),()) u) hS MIn.here hM2 hdd rfl (fun b _=>?_)
 · dsimp only at hp;rw [hxn] at hp;exact hp
 refine Ef4 H (hS.mbOut hM2 hdd) hy ?_
 intro a4 n4 c4 w hS4
 have hS5:=Ho.mbIn (d':=⟨d.r,a4,n4,c4,y⟩) hM2 hdd rfl hS4
 refine ⟨_,rfl,?_⟩
 refine hX2 _ _ ⟨by rw [wrU (by omega)],_,ds.set m ⟨d.r,a4,n4,c4,y⟩,AF (By7 hM2),?_,?_,hS5⟩
 · rw [Aq4 hM2];exact ao
 · rw [Aq4 hM2];exact At3 h hk
end
end Go.Eng
/-
  inertia: scaled: a row. No condition.
-/
namespace Go.Eng
open Go
section
variable {N:Nums} {P:Program} (H:AllOk N P)
include H
theorem Gp1 {w0 w:World} {R:List It} {n i r1 r3 h:Nat} {O:Hd} {M:List Rw} {low:Int} {l:List Dy} {hh:List Hd} {qa:Option Addr} {ql qc:Nat} {x:Dy} {hx:Hd} {s0:Int×Int} {row:List Int} {s1:Int×Int} {J:Int×Int×Unit→World→Prop} (hn:n≤1000) (hi:i<n)
 (au:cl r1 [.int .i64 n,.int .i64 n,.slice qa ql qc] N.Hs3∈R) (ah:cl r3 [.bool x.1,.slice hx.1 hx.2.1 hx.2.2,.int .i64 x.2.2] N.Hs7∈R) (p:cl h [.slice O.1 O.2.1 O.2.2,.int .i64 low] N.Hi4∈R)
 (hD:Ent R (rdA (dyC l hh) qa (ql*3) (qc*3))) (g:AllD R l hh) (hxe:Ent R (rdA (x.2.1.map (AV .u64)) hx.1 hx.2.1 hx.2.2)) (hl:l.length=n*n)
 (hOl:O.2.1=n) (hln:(vals M).length=n) (h0:(vals M).set i []=vals M) (hd:Et3 n l x low i s0=some (row,s1))
 (hS:Ho w0 w (MB N O M R))
 (hJ:∀ (M1:List Rw) (w1:World),vals M1=(vals M).set i row→Ho w0 w1 (MB N O M1 R)→J (s1.1,s1.2,()) w1) :
 Ac3 (σ:=Int×Int×Int×Unit) (fun f bq k=>
  cond (decide (f.2.2.1<(n:Int)))
  (∃ (av:Option Addr) (aw br:Nat),k.cell? ((⟨r1,0,none⟩:Addr).add 2)=some (.slice av aw br) ∧
   ∃ aa:Int,k.cell? ((⟨r1,0,none⟩:Addr).add 1)=some (.int .i64 aa) ∧
   (0:Int)≤(i64.wrap ((i64.wrap ((i:Int)*aa))+f.2.2.1))∧(i64.wrap ((i64.wrap ((i:Int)*aa))+f.2.2.1))<(aw:Nat) ∧
   Ab6 av fun ai=>
   ∃ ax:Bool,k.cell? (ai.add ((i64.wrap ((i64.wrap ((i:Int)*aa))+f.2.2.1)).toNat*3))=some (.bool ax) ∧
   ∃ (ay:Option Addr) (az a0:Nat),k.cell? ((ai.add ((i64.wrap ((i64.wrap ((i:Int)*aa))+f.2.2.1)).toNat*3)).add 1)=some (.slice ay az a0) ∧
   ∃ a4:Int,k.cell? ((ai.add ((i64.wrap ((i64.wrap ((i:Int)*aa))+f.2.2.1)).toNat*3)).add 2)=some (.int .i64 a4) ∧
   ∃ a6:Int,k.cell? ((⟨h,0,none⟩:Addr).add 1)=some (.int .i64 a6) ∧
   drM k fun bs=>
   Aa1 P N.Hh8 #[.agg #[.bool ax,.slice ay az a0,.int .i64 a4],.int .i64 a6] bs fun bt bu=>
   ∃ u:(Option Addr),bt=(.pointer u) ∧
   drM bu fun ab=>
   Ad7 (σ:=Unit) (fun a7=>
    cond ((i:Int)==f.2.2.1)
    (∃ a8:Bool,ab.cell? ⟨r3,0,none⟩=some (.bool a8) ∧
     ∃ (a9:Option Addr) (ba bb:Nat),ab.cell? ((⟨r3,0,none⟩:Addr).add 1)=some (.slice a9 ba bb) ∧
     ∃ bc:Int,ab.cell? ((⟨r3,0,none⟩:Addr).add 2)=some (.int .i64 bc) ∧
     ∃ be:Int,ab.cell? ((⟨h,0,none⟩:Addr).add 1)=some (.int .i64 be) ∧
     Aa1 P N.Hh8 #[.agg #[.bool a8,.slice a9 ba bb,.int .i64 bc],.int .i64 be] ab fun bv bw=>
     ∃ bf:(Option Addr),bv=(.pointer bf) ∧
     Aa1 P N.Hq6 #[.pointer u,.pointer u,.pointer bf] bw fun bx bz=>
     ∃ b0:(Option Addr),bx=(.pointer b0) ∧
     a7 (()) bz)
    (a7 (()) ab))
   (fun ck b1=>
    Aa1 P N.Hp5 #[.pointer u] b1 fun b3 bh=>
    ∃ bi:Int,b3=(.int .i64 bi) ∧
    Ad7 (σ:=Int×Int×Unit) (fun bj=>
     cond (bi != 0)
     (Aa1 P N.Hg4 #[.pointer u] bh fun b4 b5=>
      ∃ aj:Int,b4=(.int .u64 aj) ∧
      Aa1 P N.Hm4 #[.pointer u] b5 fun b6 b7=>
      ∃ ak:Int,b6=(.int .i64 ak) ∧
      bj ((if (i64.wrap aj)<f.1 then (i64.wrap aj) else f.1),(if ak>f.2.1 then ak else f.2.1),()) b7)
     (bj (f.1,f.2.1,()) bh))
    (fun bk ad=>
     ∃ (ae:Option Addr) (af al:Nat),ad.cell? ⟨h,0,none⟩=some (.slice ae af al) ∧
     ∃ (am:Option Addr) (an bm:Nat),ad.cell? ⟨h,0,none⟩=some (.slice am an bm) ∧
     (0:Int)≤(i:Int)∧(i:Int)<(an:Nat) ∧
     Ab6 am fun bo=>
     ∃ (ao:Option Addr) (ap aq:Nat),ad.cell? (bo.add ((i:Int).toNat*1))=some (.slice ao ap aq) ∧
     drM ad fun b8=>
     Ac8 #[.pointer u] N.Ho7 b8 fun b9 ag=>
     ag.cell? (bo.add ((i:Int).toNat*1))=some (.slice ao ap aq) ∧
     ag.cell? ⟨h,0,none⟩=some (.slice am an bm) ∧
     ag.cell? ⟨h,0,none⟩=some (.slice ae af al) ∧
     drM ag fun ca=>
     Bn8 N.Ho7 1 8 #[.pointer none] ao ap aq (some b9) 1 ca fun cb cc cd bp=>
     bp.cell? ⟨h,0,none⟩=some (.slice ae af al) ∧
     (0:Int)≤(i:Int)∧(i:Int)<(af:Nat) ∧
     Ab6 ae fun ce=>
     drM bp fun cf=>
     stM (ce.add ((i:Int).toNat*1)) (.slice cb cc cd) cf fun cg=>
     drM cg fun ch=>
     bq (bk.1,bk.2.1,(i64.wrap (f.2.2.1+1)),()) ch)))
  (J (f.1,f.2.1,()) k))
  (s0.1,s0.2,0,()) w:=by
 refine As0 (fun m s w=>∃ (N1:List Rw) (lr:List Int) (st:Int×Int),s=(st.1,st.2,(m:Int),())∧Al1 (fun j r=>(Ez7 n l x low i j).bind fun v=>(Cs7 r.2 v).bind fun s'=>some (r.1 ++ [v],s')) m ([],s0)=some (lr,st)∧lr.length=m∧vals N1=(vals M).set i lr∧Ho w0 w (MB N O N1 R)) n ⟨M,[],s0,rfl,rfl,rfl,h0.symm,hS⟩ ?_ ?_
 rotate_left
 · rintro s w X ⟨N1,lr,st,rfl,hf,hll,hv,hS⟩
   dsimp only
   refine Ab7 (fun hc=>?_) (fun _=>?_)
   · simp at hc
   have:some (lr,st)=some (row,s1):=hf.symm.trans hd
   cases this
   exact hJ N1 w hv hS
 clear hS
 rintro m s w X hm ⟨N1,lr,st,rfl,hf,hll,hv,hS⟩ hX
 dsimp only
 refine Ab7 (fun _=>?_) (fun hc=>?_)
 rotate_left
 · simp at hc;omega
 obtain ⟨o2,ac,ci⟩:=Ar5 hd hm hf
 obtain ⟨v,o,ac⟩:=bnd ac
 obtain ⟨st2,hst,ac⟩:=bnd ac
 obtain rfl:=Option.some.inj ac
 obtain ⟨y,hy,o⟩:=bnd o
 have hidx:i*n+m<l.length:=by
  rw [hl]
  have:(i+1)*n≤n*n:=Nat.mul_le_mul_right n hi
  rw [Nat.add_mul] at this;omega
 have hnn:n*n≤1000*1000:=Nat.mul_le_mul hn hn
 have hdk:l[i*n+m]?=some (l.getD (i*n+m) (false,[],0)):=by
  rw [AE,AC hidx];rfl
 generalize l.getD (i*n+m) (false,[],0)=dd at *
 obtain ⟨gk,hgk,hek⟩:=g.get hdk
 have hR:∀ e,e∈R→e∈MB N O N1 R:=fun e he=>Ag2 he
 refine ⟨_,_,_,hS.cel (hR _ au) (i:=2) rfl,_,hS.cel (hR _ au) (i:=1) rfl,?_⟩
 have ew:i64.wrap (i64.wrap ((i:Int)*(n:Int))+(m:Int))=((i*n+m:Nat):Int):=by
  rw [Fi3 (by omega),Bs0 (by omega)]
 rw [ew]
 have hr:=hD.now hR hS
 refine Ah3 g.len hr (by omega) (by rw [AB];exact hidx) ?_
 intro b hb
 refine ⟨_,Bq3 hr hb (by rw [AB];exact hdk) (by rw [AB];exact hgk),_,_,_,Bm9 hr hb (by rw [AB];exact hdk) (by rw [AB];exact hgk),_,Bj1 hr hb (by rw [AB];exact hdk) (by rw [AB];exact hgk),?_⟩
 refine ⟨_,hS.cel (hR _ p) (i:=1) rfl,?_⟩
 refine Aa7 hS ?_;clear hr hS;intro w hS
 refine Bl8 H hS (hek.mono hR) hy ?_
 clear hS;intro rx a1 n1 c1 w hS
 refine ⟨_,rfl,?_⟩
 refine Aa7 hS ?_;clear hS;intro w hS
 replace hS:=hS.mbPush
 refine Aa9 (fun _ w=>∃ (a:Option Addr) (n' c:Nat),Ho w0 w (MB N O N1 (bg N.Hr0 N.Hq9 rx a n' c v::R))) (fun J2 hJ2=>?_) ?_
 · refine Ab7 (fun hc=>?_) (fun hc=>?_)
   · rw [hc,cT] at o
     obtain ⟨z,hz,o⟩:=bnd o
     have hR2:∀ e,e∈R→e∈MB N O N1 (bg N.Hr0 N.Hq9 rx a1 n1 c1 y::R):=fun e he=>Ag2 (AA _ he)
     refine ⟨_,hS.cel (hR2 _ ah) rfl,_,_,_,hS.cel (hR2 _ ah) (i:=1) rfl,_,hS.cel (hR2 _ ah) (i:=2) rfl,_,hS.cel (hR2 _ p) (i:=1) rfl,?_⟩
     refine Bl8 H hS (hxe.mono hR2) hz ?_
     clear hS;intro rz a2 n2 c2 w hS
     refine ⟨_,rfl,?_⟩
     refine Ct3 H hS.mbFlip (Ent.bg (Ag2 mp0)) o ?_
     clear hS;intro a3 n3 c3 w hS
     refine ⟨_,rfl,?_⟩
     exact hJ2 _ _ ⟨a3,n3,c3,hS.mbFlip.drop⟩
   · rw [hc,cF] at o
     obtain rfl:=Option.some.inj o
     exact hJ2 _ _ ⟨a1,n1,c1,hS⟩
 clear hS
 rintro s w ⟨a2,n2,c2,hS⟩
 refine Ao5 H hS (Ent.bg (Ag2 mp0)) rfl ?_
 clear hS;intro w hS
 refine ⟨_,rfl,?_⟩
 refine Aa9 (fun s w=>s=(st2.1,st2.2,())∧Ho w0 w (MB N O N1 (bg N.Hr0 N.Hq9 rx a2 n2 c2 v::R))) (fun J3 hJ3=>?_) ?_
 · have hst:Cs7 st v=some st2:=hst
   unfold Cs7 at hst
   refine Ab7 (fun hc=>?_) (fun hc=>?_)
   · rw [show (sgn v != 0)=true from hc,cT] at hst
     obtain ⟨t,ht,hst⟩:=bnd hst
     obtain ⟨bl,hbl,hst⟩:=bnd hst
     obtain rfl:=Option.some.inj hst
     refine Aw8 H hS (Ent.bg (Ag2 mp0)) ht ?_
     clear hS;intro w hS
     refine ⟨_,rfl,?_⟩
     refine Ch7 H hS (Ent.bg (Ag2 mp0)) hbl ?_
     clear hS;intro w hS
     refine ⟨_,rfl,?_⟩
     exact hJ3 _ _ ⟨rfl,hS⟩
   · rw [show (sgn v != 0)=false from hc,cF] at hst
     obtain rfl:=Option.some.inj hst
     exact hJ3 _ _ ⟨rfl,hS⟩
 clear hS
 rintro s w ⟨rfl,hS⟩
 have hR3:∀ e,e∈R→e∈MB N O N1 (bg N.Hr0 N.Hq9 rx a2 n2 c2 v::R):=fun e he=>Ag2 (AA _ he)
 refine ⟨_,_,_,hS.cel (hR3 _ p) rfl,_,_,_,hS.cel (hR3 _ p) rfl,?_⟩
 have hN1:N1.length=n:=by rw [← An4,hv,AH];exact hln
 have hxi:N1[i]?=some (N1[i]'(by omega)):=AC _
 generalize (N1[i]'(by omega))=xr at hxi
 have hxl:xr.2.length=m:=by
  have e:=Bf2 hxi
  rw [hv,AF (by omega)] at e
  have:=congrArg List.length (Option.some.inj e)
  simp at this
  omega
 refine Ce0 hS MIn.here hxi rfl ?_
 intro b2 ar
 have hgi:(N1.map AP)[((i:Nat):Int).toNat]?=some xr.1:=by
  rw [AB,AI,hxi];rfl
 refine Aa7 hS ?_;clear hS;intro w hS
 refine Ba4 (ks:=[rx]) (enc:=Bk3) (m:=1) hS rfl rfl ?_
 clear hS;intro pr w hS
 have hR4:∀ e,e∈R→e∈sl (some ⟨pr,0,none⟩) 1 1 ([rx].map Bk3) N.Ho7::MB N O N1 (bg N.Hr0 N.Hq9 rx a2 n2 c2 v::R):=fun e he=>AA _ (hR3 e he)
 refine ⟨Bv7 hS.drop.mbOr ar hgi,hS.cel (hR4 _ p) rfl,hS.cel (hR4 _ p) rfl,?_⟩
 refine Aa7 hS ?_;clear hS;intro w hS
 refine Fe4 (d':=⟨rx,a2,n2,c2,v⟩) hS hxi (by omega) ?_
 clear hS;intro a5 c5 w hS
 refine ⟨hS.cel (AA _ (AA _ (AK _ (AA _ p)))) rfl,by omega,by omega,?_⟩
 rw [ar]
 refine Ac0 ?_
 refine Aa7 hS ?_;clear hS;intro w hS
 refine Dk4 hS hxi ar ?_
 clear hS;intro w hS
 refine Aa7 hS ?_;clear hS;intro w hS
 exact hX _ _ ⟨_,_,st2,by rw [wrU (by omega)],ci,by simp [hll],Dz0 hxi hv (by omega),hS⟩
end
end Go.Eng
/-
  inertia: scaled, walked. No condition.
-/
namespace Go.Eng
open Go
theorem Fl3 {n:Nat} {l:List Dy} {x:Dy} {low:Int} {i:Nat} {s:Int×Int} {r:List Int×(Int×Int)} (h:Et3 n l x low i s=some r):r.1.length=n:=
 Au0 (fun m (r:List Int×(Int×Int))=>r.1.length=m) h rfl (by
  rintro m c d _ a b
  obtain ⟨v,_,e⟩:=bnd b
  obtain ⟨s',_,f⟩:=bnd e
  obtain rfl:=Option.some.inj f
  simp [a])
section
variable {N:Nums} {P:Program} (H:AllOk N P)
include H
theorem Cy3 {w0 w:World} {L:List It} {n:Nat} {l:List Dy} {hh:List Hd} {qa:Option Addr} {ql qc:Nat} {x:Dy} {hx:Hd} {V:Mt} {low:Int} {ok:Bool} (hn:n≤1000) (hl:l.length=n*n)
 (hD:Ent L (rdA (dyC l hh) qa (ql*3) (qc*3))) (g:AllD L l hh) (hxe:Ent L (rdA (x.2.1.map (AV .u64)) hx.1 hx.2.1 hx.2.2)) (ht:Bl3 n l x=some (V,low,ok)) (hS:Ho w0 w L) {K:Value→World→Prop}
 (hK:∀ (O:Hd) (M1:List Rw) (u:World),vals M1=V→Sq n (vals M1)→Ho w0 u (MB N O M1 L)→K (.tuple #[.agg #[.slice O.1 O.2.1 O.2.2,.int .i64 low],.bool ok]) u) :
 Aa1 P N.Hh3 #[.agg #[.int .i64 n,.int .i64 n,.slice qa ql qc],.agg #[.bool x.1,.slice hx.1 hx.2.1 hx.2.2,.int .i64 x.2.2]] w K:=by
 refine H.inertia_scaled _ _ _ _ _ _ _ _ _ _ w _ ?_
 unfold Bl6
 have hnn:n*n≤1000*1000:=Nat.mul_le_mul hn hn
 refine Ab2 hS ?_;clear hS;intro r1 w hS
 refine Ab2 hS ?_;clear hS;intro r3 w hS
 refine Ab2 hS ?_;clear hS;intro r5 w hS
 refine ⟨_,hS.cel mp2 (i:=0) rfl,?_⟩
 refine Ge0 (I:=N.Hr0) (E:=N.Hq9) (tL:=N.Ho7) hS (by omega) ?_
 clear hS;intro f w hS
 refine Ab2 hS ?_;clear hS;intro t w hS
 refine Aa8 hS rfl rfl ?_;clear hS;intro w hS
 refine Aa8 hS rfl rfl ?_;clear hS;intro w hS
 rw [AB] at hS
 generalize hT:(cl r5 [.slice none 0 0,.int .i64 0] N.Hi4::cl r3 [.bool x.1,.slice hx.1 hx.2.1 hx.2.2,.int .i64 x.2.2] N.Hs7::cl r1 [.int .i64 (n:Int),.int .i64 (n:Int),.slice qa ql qc] N.Hs3::L)=T at *
 have hS:Ho w0 w (cl t [.slice (some ⟨f,0,none⟩) n n,.int .i64 65536] N.Hi4::MB N (some ⟨f,0,none⟩,n,n) (List.replicate n ((none,0,0),[])) T):=hS
 have hT1:∀ e,e∈L→e∈T:=fun e he=>by rw [← hT];exact AA _ (AA _ (AA _ he))
 have v:cl r1 [.int .i64 (n:Int),.int .i64 (n:Int),.slice qa ql qc] N.Hs3∈T:=by rw [← hT];exact mp2
 have k:cl r3 [.bool x.1,.slice hx.1 hx.2.1 hx.2.2,.int .i64 x.2.2] N.Hs7∈T:=by rw [← hT];exact mp1
 have hqlen:ql=l.length:=by
  have:=(hD.now (fun e he=>AA _ (Ag2 (hT1 e he))) hS).len
  rw [Al7 g.len] at this;omega
 refine Aa9 (fun s w=>∃ (a':Option Addr) (c':Nat),s=((a',l.length+1,c'),((l.length+1:Nat):Int),0,())∧Ho w0 w (sl a' ((l.length+1)*3) (c'*3) (dyC (l ++ [x]) (hh ++ [hx])) N.Hs7::cl t [.slice (some ⟨f,0,none⟩) n n,.int .i64 65536] N.Hi4::MB N (some ⟨f,0,none⟩,n,n) (List.replicate n ((none,0,0),[])) T)) (fun J hJ=>?_) ?_
 · have hm:∀ e,e∈T→e∈cl t [.slice (some ⟨f,0,none⟩) n n,.int .i64 65536] N.Hi4::MB N (some ⟨f,0,none⟩,n,n) (List.replicate n ((none,0,0),[])) T:=fun e he=>AA _ (Ag2 he)
   refine ⟨_,_,_,hS.cel (hm _ v) (i:=2) rfl,_,hS.cel (hm _ k) rfl,_,_,_,hS.cel (hm _ k) (i:=1) rfl,_,hS.cel (hm _ k) (i:=2) rfl,?_,?_⟩
   · refine Aa7 hS ?_;clear hS;intro w hS
     refine El1 H hS (hD.mono fun e he=>hm _ (hT1 e he)) (g.mono fun e he=>hm _ (hT1 e he)) (by omega) ?_
     clear hS;intro a1 n1 c1 w hS
     refine ⟨_,_,_,rfl,hS.cel (AA _ (hm _ k)) rfl,hS.cel (AA _ (hm _ k)) (i:=1) rfl,hS.cel (AA _ (hm _ k)) (i:=2) rfl,?_⟩
     have aa:n1=l.length:=by
      have:=(slA.rd (hS.hold _ (AD ..))).len
      rw [Al7 g.len] at this;omega
     subst aa
     refine Aa7 hS ?_;clear hS;intro w hS
     refine Bm3 (X:=[x]) (H:=[hx]) (m:=1) hS rfl rfl rfl ?_
     clear hS;intro rp w hS
     refine Aa7 hS ?_;clear hS;intro w hS
     refine Bu3 (X:=l) (H:=hh) (Y:=[x]) (G:=[hx]) hS.flip2 (by simp;omega) g.len rfl (slA.rd (hS.hold _ (AD ..))) rfl rfl ?_
     clear hS;intro a' c' w hS
     refine Aa7 hS ?_;clear hS;intro w hS
     exact hJ _ _ ⟨a',c',rfl,hS.perm (.cons _ (.refl _)) |>.flip2.drop⟩
   · refine Aa7 hS ?_;clear hS;intro w hS
     refine Bm3 (X:=[x]) (H:=[hx]) (m:=1) hS rfl rfl rfl ?_
     clear hS;intro rp w hS
     refine ⟨hS.cel (AA _ (hm _ v)) (i:=2) rfl,?_⟩
     refine Aa7 hS ?_;clear hS;intro w hS
     refine El1 H hS (hD.mono fun e he=>AA _ (hm _ (hT1 e he))) (g.mono fun e he=>AA _ (hm _ (hT1 e he))) (by omega) ?_
     clear hS;intro a1 n1 c1 w hS
     refine ⟨_,_,_,rfl,?_⟩
     have aa:n1=l.length:=by
      have:=(slA.rd (hS.hold _ (AD ..))).len
      rw [Al7 g.len] at this;omega
     subst aa
     refine Aa7 hS ?_;clear hS;intro w hS
     refine Bu3 (X:=l) (H:=hh) (Y:=[x]) (G:=[hx]) hS (by simp;omega) g.len rfl (slA.rd (hS.hold _ (AA _ (AD ..)))) rfl rfl ?_
     clear hS;intro a' c' w hS
     refine Aa7 hS ?_;clear hS;intro w hS
     exact hJ _ _ ⟨a',c',rfl,hS.flip2.drop⟩
 clear hS
 rintro s w ⟨a',c',rfl,hS⟩
 dsimp only
 refine Aa9 (fun _ w=>Ho w0 w (MB N (some ⟨f,0,none⟩,n,n) (List.replicate n ((none,0,0),[])) (cl t [.slice (some ⟨f,0,none⟩) n n,.int .i64 (Cd1 (l ++ [x]) 65536)] N.Hi4::T))) (fun J hJ=>?_) ?_
 · exact Fs9 H (D:=l ++ [x]) (hh:=hh ++ [hx]) (by simp;omega) (Ent.sl mp0) ((g.append (AllD.one hxe)).mono fun e he=>AA _ (Ag2 (hT1 e he))) hS.flip2 fun u h=>hJ _ _ h.flip2.drop.mbPush
 clear hS
 intro s w hS
 generalize hlw:Cd1 (l ++ [x]) 65536=lw at *
 obtain ⟨⟨VA,least,most⟩,hall,ht⟩:=bnd (show (Gg1 n l x (Cd1 (l ++ [x]) 65536)).bind _=_ from ht)
 dsimp only at ht
 rw [hlw] at hall ht
 generalize hR:cl t [.slice (some ⟨f,0,none⟩) n n,.int .i64 lw] N.Hi4::T=R at *
 have hTR:∀ e,e∈T→e∈R:=fun e he=>by rw [← hR];exact AA _ he
 have z:cl t [.slice (some ⟨f,0,none⟩) n n,.int .i64 lw] N.Hi4∈R:=by rw [← hR];exact AD ..
 refine ⟨_,hS.cel (Ag2 (hTR _ v)) (i:=0) rfl,?_⟩
 refine Aa9 (fun s w=>∃ M1:List Rw,s=(least,most,())∧vals M1=VA∧Sq n (vals M1)∧Ho w0 w (MB N (some ⟨f,0,none⟩,n,n) M1 R)) (fun J hJ=>?_) ?_
 · refine As0 (fun i s w=>∃ (NX:List Rw) (st:Int×Int),s=(st.1,st.2,(i:Int),())∧Al1 (fun i r=>(Et3 n l x lw i r.2).bind fun o=>some (r.1.set i o.1,o.2)) i (List.replicate n [],(1073741824,0))=some (vals NX,st)∧(vals NX).length=n∧(∀ p l',p<i→(vals NX)[p]?=some l'→l'.length=n)∧(∀ p,i≤p→p<n→(vals NX)[p]?=some [])∧Ho w0 w (MB N (some ⟨f,0,none⟩,n,n) NX R)) n
    ⟨List.replicate n ((none,0,0),[]),(1073741824,0),rfl,by
     have:vals (List.replicate n (((none:Option Addr),0,0),([]:List BgD)))=List.replicate n []:=by unfold vals;rw [AO];rfl
     rw [this];rfl,by rw [An4];simp,fun p l' hp=>by omega,fun p _ hp=>by unfold vals;rw [AO,AN,if_pos hp];rfl,hS⟩ ?_ ?_
   rotate_left
   · rintro s w X2 ⟨NX,st,rfl,hf,hln,hz,_,hS⟩
     dsimp only
     refine Ab7 (fun hc=>?_) (fun _=>?_)
     · simp at hc
     have:some (vals NX,st)=some (VA,(least,most)):=hf.symm.trans hall
     cases this
     refine hJ _ _ ⟨NX,rfl,rfl,⟨hln,fun l' hl'=>?_⟩,hS⟩
     obtain ⟨p,hp,rfl⟩:=List.mem_iff_getElem.1 hl'
     exact hz p _ (by rw [← hln];exact hp) (AC hp)
   clear hS
   rintro i s w X2 hi ⟨NX,st,rfl,hf,hln,hz,ab,hS⟩ hX2
   dsimp only
   refine Ab7 (fun _=>?_) (fun hc=>?_)
   rotate_left
   · simp at hc;omega
   obtain ⟨s3,hrow0,ac⟩:=Ar5 hall hi hf
   obtain ⟨row,hrow,ad⟩:=bnd hrow0
   obtain rfl:=Option.some.inj ad
   obtain ⟨row,s1⟩:=row
   have h0:(vals NX).set i []=vals NX:=by
    refine AT fun p=>?_
    rw [AX]
    split
    · rename_i e
      subst e
      rw [if_pos (by omega),ab i (AY _) hi]
    · rfl
   refine ⟨_,hS.cel (Ag2 (hTR _ v)) (i:=1) rfl,?_⟩
   refine Aa9 (fun s w=>s=(s1.1,s1.2,())∧∃ N1:List Rw,vals N1=(vals NX).set i row∧Ho w0 w (MB N (some ⟨f,0,none⟩,n,n) N1 R)) (fun J4 hJ4=>?_) ?_
   · exact Gp1 H hn hi (hTR _ v) (hTR _ k) z (hD.mono fun e he=>hTR _ (hT1 e he)) (g.mono fun e he=>hTR _ (hT1 e he)) (hxe.mono fun e he=>hTR _ (hT1 e he)) hl rfl hln h0 hrow hS fun N1 u hv h1=>hJ4 _ _ ⟨rfl,N1,hv,h1⟩
   clear hS
   rintro s w ⟨rfl,N1,hv,hS⟩
   have hrl:row.length=n:=Fl3 hrow
   refine hX2 _ _ ⟨N1,s1,by rw [wrU (by omega)],by rw [hv];exact ac,by rw [hv,AH];exact hln,fun p l' hp hl'=>?_,fun p ag ae=>by rw [hv,AG (by omega)];exact ab p (by omega) ae,hS⟩
   rw [hv] at hl'
   by_cases e:p=i
   · subst e
     rw [AF (by omega)] at hl'
     cases hl';exact hrl
   · rw [AG (by omega)] at hl'
     exact hz p l' (by omega) hl'
 clear hS
 have fin:∀ {M1:List Rw} {w:World} {a b c d:It},Ho w0 w (a::MB N (some ⟨f,0,none⟩,n,n) M1 (b::c::d::L))→Ho w0 w (MB N (some ⟨f,0,none⟩,n,n) M1 L):=fun h=>by
  refine h.sub (.cons _ ?_)
  unfold MB mxB
  exact .cons_cons _ (List.Sublist.append (List.Sublist.refl _) (.cons _ (.cons _ (.cons _ (List.Sublist.refl _)))))
 rintro s w ⟨M1,rfl,rfl,hsq,hS⟩
 dsimp only
 refine Ab7 (fun hc=>?_) (fun hc=>?_)
 · rw [show (most==0)=true from hc,cT] at ht
   cases Option.some.inj ht
   refine ⟨_,_,_,hS.cel (Ag2 z) rfl,_,hS.cel (Ag2 z) (i:=1) rfl,?_⟩
   rw [← hR,← hT] at hS
   replace hS:=hS.mbPop.mbFlip
   refine Aa8 hS rfl rfl ?_;clear hS;intro w hS
   refine Aa8 hS rfl rfl ?_;clear hS;intro w hS
   refine ⟨_,_,_,hS.cel mp0 rfl,_,hS.cel mp0 (i:=1) rfl,?_⟩
   exact hK (some ⟨f,0,none⟩,n,n) M1 w rfl hsq (fin hS)
 · rw [show (most==0)=false from hc,cF] at ht
   obtain ⟨V2,hsh,ht⟩:=bnd ht
   cases Option.some.inj ht
   refine ⟨_,_,_,hS.cel (Ag2 z) rfl,?_⟩
   refine Aa9 (fun _ w=>∃ M2:List Rw,vals M2=V∧Sq n (vals M2)∧Ho w0 w (MB N (some ⟨f,0,none⟩,n,n) M2 R)) (fun J2 hJ2=>?_) ?_
   · exact Es4 H (O:=(some ⟨f,0,none⟩,n,n)) (by omega) hsq hsh hS fun M2 u hv h2 h1=>hJ2 _ _ ⟨M2,hv,h2,h1⟩
   clear hS
   rintro s w ⟨M2,rfl,af,hS⟩
   refine ⟨_,hS.cel (Ag2 z) (i:=1) rfl,?_⟩
   rw [← hR,← hT] at hS
   replace hS:=hS.mbPop
   refine Aa8 hS rfl rfl ?_;clear hS;intro w hS
   refine ⟨_,_,_,hS.cel mp0 rfl,_,hS.cel mp0 (i:=1) rfl,_,hS.cel (AA _ (Ag2 mp2)) rfl,?_⟩
   refine Aa7 hS ?_;clear hS;intro w hS
   replace hS:=hS.mbFlip
   refine Aa8 hS rfl rfl ?_;clear hS;intro w hS
   refine Aa8 hS rfl rfl ?_;clear hS;intro w hS
   refine ⟨hS.cel (AA _ (Ag2 mp2)) rfl,?_⟩
   refine Aa7 hS ?_;clear hS;intro w hS
   refine ⟨_,_,_,hS.cel mp0 rfl,_,hS.cel mp0 (i:=1) rfl,?_⟩
   exact hK (some ⟨f,0,none⟩,n,n) M2 w rfl af (fin hS)
end
end Go.Eng
/-
  inertia: Signs, Below, Poly walked. No condition.
-/
namespace Go.Eng
open Go
theorem nT {α:Type} {a b:α}:cond (!true) a b=b:=rfl
theorem nF {α:Type} {a b:α}:cond (!false) a b=a:=rfl
theorem Ho.mbDrop {I E tL tO:Nat} {O:Hd} {M:List Rw} {L:List It} {w0 w:World} (h:Ho w0 w (mxB I E tL tO O M L)):Ho w0 w L:=h.sub (.cons _ (AJ _ _))
def sqG (r c:Int) (l:List Dy):Bool:=decide (0≤r∧r≤48∧c=r∧((l.length:Nat):Int)=r*r)
theorem Gf0 {r c:Int} {l:List Dy} (h:sqG r c l=true):∃ n:Nat,r=n∧c=n∧n≤1000∧l.length=n*n∧r.toNat=n:=by
 have h:=of_decide_eq_true h
 obtain ⟨n,rfl⟩:∃ n:Nat,r=n:=⟨r.toNat,by omega⟩
 refine ⟨n,rfl,h.2.2.1,by omega,?_,AB n⟩
 have:=h.2.2.2
 exact_mod_cast this
def Dj6 (r c:Int) (l:List Dy):Option (Int×Int×Int×Int):=
 (Ac4 r c l).bind fun b=>cond (!b) (some (0,0,0,4))
  (cond (sqG r c l) ((Bl3 r.toNat l (false,[],0)).bind fun o=>cond (!o.2.2) (some (0,0,0,3)) ((Bm7 r.toNat o.1).bind fun q=>some (q.1,q.2.1,q.2.2,0))) none)
def Cv6 (r c:Int) (l:List Dy) (a:Bool) (e:List Int) (f:Int):Option (Int×Int):=
 (Ac4 r c l).bind fun b=>cond (!b) (some (0,4))
  ((Ag6 a e f).bind fun b=>cond (!b) (some (0,2))
    (cond (sqG r c l) ((Bl3 r.toNat l (a,e,f)).bind fun o=>cond (!o.2.2) (some (0,3)) ((Bm7 r.toNat o.1).bind fun q=>some (q.1,0))) none))
def Df3 (low:Int):List Int→Nat→List Dy→Option (List Dy×Int)
 | [],_,acc=>some (acc.reverse,0)
 | c::cs,k,acc=>(Ao2 c (i64.wrap ((k:Int)*low))).bind fun o=>cond (o.2.2.2 != 0) (some ([],3)) (Df3 low cs (k+1) (acc ++ [(o.1,o.2.1,o.2.2.1)]))
def Ep7 (r c:Int) (l:List Dy):Option (List Dy×Int):=
 (Ac4 r c l).bind fun b=>cond (!b) (some ([],4))
  (cond (sqG r c l) ((Bl3 r.toNat l (false,[],0)).bind fun o=>cond (!o.2.2) (some ([],3)) ((Fa0 r.toNat o.1).bind fun cs=>cond (decide (cs.length≤1000000)) (Df3 o.2.1 cs 0 []) none)) none)
section
variable {N:Nums} {P:Program} (H:AllOk N P)
include H
theorem Fk0 {w0 w:World} {L:List It} {r c:Int} {qa:Option Addr} {ql qc:Nat} {hh:List Hd} {l:List Dy} {u0 u1 u2 a:Int} (hS:Ho w0 w L) (hq:Ent L (rdA (dyC l hh) qa (ql*3) (qc*3))) (g:AllD L l hh) (hx:Dj6 r c l=some (u0,u1,u2,a))
 {K:Value→World→Prop} (hK:∀ e:World,Ho w0 e L→K (.tuple #[.agg #[.int .i64 u0,.int .i64 u1,.int .i64 u2],.int .i64 a]) e):Aa1 P N.Hh5 #[.agg #[.int .i64 r,.int .i64 c,.slice qa ql qc]] w K:=by
 refine H.inertia_Signs _ _ _ _ _ w _ ?_
 unfold Bp5
 replace hx:=bnd (show (Ac4 r c l).bind _=_ from hx)
 obtain ⟨b,hb,hx⟩:=hx
 refine Ab2 hS ?_;clear hS;intro k w hS
 refine Ab2 hS ?_;clear hS;intro m w hS
 refine ⟨_,hS.cel mp1 (i:=0) rfl,_,hS.cel mp1 (i:=1) rfl,_,_,_,hS.cel mp1 (i:=2) rfl,?_⟩
 refine Al2 H hS (hq.mono tl2) (g.mono tl2) hb ?_
 clear hS;intro w hS
 refine ⟨_,rfl,?_⟩
 cases b with
 | false=>
   rw [nF]
   cases Option.some.inj (show some _=some _ from hx)
   refine Aa8 hS rfl rfl ?_;clear hS;intro w hS
   refine Aa8 hS rfl rfl ?_;clear hS;intro w hS
   refine Aa8 hS rfl rfl ?_;clear hS;intro w hS
   refine ⟨_,hS.cel mp0 (i:=0) rfl,_,hS.cel mp0 (i:=1) rfl,_,hS.cel mp0 (i:=2) rfl,?_⟩
   exact hK _ hS.drop.drop
 | true=>
   rw [nT]
   replace hx:cond (sqG r c l) _ none=some (u0,u1,u2,a):=hx
   cases hsq:sqG r c l with
   | false=>rw [hsq] at hx;cases hx
   | true=>
   rw [hsq,cT] at hx
   obtain ⟨n,rfl,rfl,hn,hll,htn⟩:=Gf0 hsq
   rw [htn] at hx
   replace hx:=bnd hx
   obtain ⟨⟨V,low,ok⟩,hsc,hx⟩:=hx
   dsimp only at hx
   refine ⟨_,hS.cel mp1 (i:=0) rfl,_,hS.cel mp1 (i:=1) rfl,_,_,_,hS.cel mp1 (i:=2) rfl,?_⟩
   refine Cy3 H (x:=(false,[],0)) (hx:=(none,0,0)) hn hll (hq.mono tl2) (g.mono tl2) (Ent.nilD _) hsc hS ?_
   clear hS
   rintro O M1 w rfl f hS
   refine ⟨_,_,_,_,_,rfl,?_⟩
   refine Ab2 hS ?_;clear hS;intro rr w hS
   refine Aa8 hS rfl rfl ?_;clear hS;intro w hS
   refine Aa8 hS rfl rfl ?_;clear hS;intro w hS
   cases ok with
   | false=>
     rw [nF]
     cases Option.some.inj (show some _=some _ from hx)
     replace hS:=hS.drop.mbDrop
     refine Aa8 hS rfl rfl ?_;clear hS;intro w hS
     refine Aa8 hS rfl rfl ?_;clear hS;intro w hS
     refine Aa8 hS rfl rfl ?_;clear hS;intro w hS
     refine ⟨_,hS.cel mp0 (i:=0) rfl,_,hS.cel mp0 (i:=1) rfl,_,hS.cel mp0 (i:=2) rfl,?_⟩
     exact hK _ hS.drop.drop
   | true=>
     rw [nT]
     replace hx:=bnd (show (Bm7 n (vals M1)).bind _=_ from hx)
     obtain ⟨q,h,hx⟩:=hx
     cases Option.some.inj hx
     refine Eq6 H (O:=O) (low := .int .i64 low) (M:=M1) (n:=n) f (by omega) h hS ?_
     clear hS;intro w hS
     refine ⟨_,_,_,rfl,?_⟩
     refine Aa8 hS rfl rfl ?_;clear hS;intro w hS
     refine Aa8 hS rfl rfl ?_;clear hS;intro w hS
     refine Aa8 hS rfl rfl ?_;clear hS;intro w hS
     refine ⟨_,hS.cel mp0 (i:=0) rfl,_,hS.cel mp0 (i:=1) rfl,_,hS.cel mp0 (i:=2) rfl,?_⟩
     exact hK _ hS.drop.drop
theorem Fk9 {w0 w:World} {L:List It} {r c:Int} {qa:Option Addr} {ql qc:Nat} {hh:List Hd} {l:List Dy} {a:Bool} {e:List Int} {f:Int} {ba:Option Addr} {bl bc:Nat} {u0 u1:Int} (hS:Ho w0 w L) (hq:Ent L (rdA (dyC l hh) qa (ql*3) (qc*3))) (g:AllD L l hh)
 (h:Ent L (rdA (List.map (AV .u64) e) ba bl bc)) (hx:Cv6 r c l a e f=some (u0,u1))
 {K:Value→World→Prop} (hK:∀ k:World,Ho w0 k L→K (.tuple #[.int .i64 u0,.int .i64 u1]) k):Aa1 P N.Hh7 #[.agg #[.int .i64 r,.int .i64 c,.slice qa ql qc],.agg #[.bool a,.slice ba bl bc,.int .i64 f]] w K:=by
 refine H.inertia_Below _ _ _ _ _ _ _ _ _ _ w _ ?_
 unfold Bo2
 replace hx:=bnd (show (Ac4 r c l).bind _=_ from hx)
 obtain ⟨b,hb,hx⟩:=hx
 refine Ab2 hS ?_;clear hS;intro p w hS
 refine Ab2 hS ?_;clear hS;intro s w hS
 refine ⟨_,hS.cel mp1 (i:=0) rfl,_,hS.cel mp1 (i:=1) rfl,_,_,_,hS.cel mp1 (i:=2) rfl,?_⟩
 refine Al2 H hS (hq.mono tl2) (g.mono tl2) hb ?_
 clear hS;intro w hS
 refine ⟨_,rfl,?_⟩
 cases b with
 | false=>
   rw [nF]
   cases Option.some.inj (show some _=some _ from hx)
   exact hK _ hS.drop.drop
 | true=>
   rw [nT]
   replace hx:=bnd (show (Ag6 a e f).bind _=_ from hx)
   obtain ⟨b',hb',hx⟩:=hx
   refine ⟨_,hS.cel mp0 (i:=0) rfl,_,_,_,hS.cel mp0 (i:=1) rfl,_,hS.cel mp0 (i:=2) rfl,?_⟩
   refine Bj3 H hS (h.mono tl2) hb' ?_
   clear hS;intro w hS
   refine ⟨_,rfl,?_⟩
   cases b' with
   | false=>
     rw [nF]
     cases Option.some.inj (show some _=some _ from hx)
     exact hK _ hS.drop.drop
   | true=>
   rw [nT]
   replace hx:cond (sqG r c l) _ none=some (u0,u1):=hx
   cases hsq:sqG r c l with
   | false=>rw [hsq] at hx;cases hx
   | true=>
   rw [hsq,cT] at hx
   obtain ⟨n,rfl,rfl,hn,hll,htn⟩:=Gf0 hsq
   rw [htn] at hx
   replace hx:=bnd hx
   obtain ⟨⟨V,low,ok⟩,hsc,hx⟩:=hx
   dsimp only at hx
   refine ⟨_,hS.cel mp1 (i:=0) rfl,_,hS.cel mp1 (i:=1) rfl,_,_,_,hS.cel mp1 (i:=2) rfl,?_⟩
   refine ⟨_,hS.cel mp0 (i:=0) rfl,_,_,_,hS.cel mp0 (i:=1) rfl,_,hS.cel mp0 (i:=2) rfl,?_⟩
   refine Cy3 H (x:=(a,e,f)) (hx:=(ba,bl,bc)) hn hll (hq.mono tl2) (g.mono tl2) (h.mono tl2) hsc hS ?_
   clear hS
   rintro O M1 w rfl m hS
   refine ⟨_,_,_,_,_,rfl,?_⟩
   refine Ab2 hS ?_;clear hS;intro rr w hS
   refine Aa8 hS rfl rfl ?_;clear hS;intro w hS
   refine Aa8 hS rfl rfl ?_;clear hS;intro w hS
   cases ok with
   | false=>
     rw [nF]
     cases Option.some.inj (show some _=some _ from hx)
     exact hK _ hS.drop.mbDrop.drop.drop
   | true=>
     rw [nT]
     replace hx:=bnd (show (Bm7 n (vals M1)).bind _=_ from hx)
     obtain ⟨q,o,hx⟩:=hx
     cases Option.some.inj hx
     refine Eq6 H (O:=O) (low := .int .i64 low) (M:=M1) (n:=n) m (by omega) o hS ?_
     clear hS;intro w hS
     refine ⟨_,_,_,rfl,?_⟩
     exact hK _ hS.drop.drop
theorem Fr4 {w0 w:World} {L:List It} {r c:Int} {qa:Option Addr} {ql qc:Nat} {hh:List Hd} {l u0:List Dy} {u1:Int} (hS:Ho w0 w L) (hq:Ent L (rdA (dyC l hh) qa (ql*3) (qc*3))) (g:AllD L l hh) (hx:Ep7 r c l=some (u0,u1))
 {K:Value→World→Prop} (hK:∀ (a0:Option Addr) (n0 c0:Nat) (aa:List Hd) (ab:It) (f:World),(∀ L1,ab∈L1→AllD L1 u0 aa)→Ho w0 f (sl a0 (n0*3) (c0*3) (dyC u0 aa) N.Hs7::ab::L)→K (.tuple #[.slice a0 n0 c0,.int .i64 u1]) f) :
 Aa1 P N.Hi2 #[.agg #[.int .i64 r,.int .i64 c,.slice qa ql qc]] w K:=by
 refine H.inertia_Poly _ _ _ _ _ w _ ?_
 unfold Bu1
 replace hx:=bnd (show (Ac4 r c l).bind _=_ from hx)
 obtain ⟨b,hb,hx⟩:=hx
 have hnil:∀ f,Ho w0 f L→u0 = []→K (.tuple #[.slice none 0 0,.int .i64 u1]) f:=fun f h h0=>by
  subst h0
  exact hK none 0 0 [] _ f (fun _ _ => .nil) h.voidItem.noneD
 refine Ab2 hS ?_;clear hS;intro r1 w hS
 refine ⟨_,hS.cel mp0 (i:=0) rfl,_,hS.cel mp0 (i:=1) rfl,_,_,_,hS.cel mp0 (i:=2) rfl,?_⟩
 refine Al2 H hS (hq.mono tl1) (g.mono tl1) hb ?_
 clear hS;intro w hS
 refine ⟨_,rfl,?_⟩
 cases b with
 | false=>
   rw [nF]
   cases Option.some.inj (show some _=some _ from hx)
   exact hnil _ hS.drop rfl
 | true=>
   rw [nT]
   replace hx:cond (sqG r c l) _ none=some (u0,u1):=hx
   cases hsq:sqG r c l with
   | false=>rw [hsq] at hx;cases hx
   | true=>
   rw [hsq,cT] at hx
   obtain ⟨n,rfl,rfl,hn,hll,htn⟩:=Gf0 hsq
   rw [htn] at hx
   replace hx:=bnd hx
   obtain ⟨⟨V,low,ok⟩,hsc,hx⟩:=hx
   dsimp only at hx
   refine ⟨_,hS.cel mp0 (i:=0) rfl,_,hS.cel mp0 (i:=1) rfl,_,_,_,hS.cel mp0 (i:=2) rfl,?_⟩
   refine Cy3 H (x:=(false,[],0)) (hx:=(none,0,0)) hn hll (hq.mono tl1) (g.mono tl1) (Ent.nilD _) hsc hS ?_
   clear hS
   rintro O M1 w rfl ac hS
   refine ⟨_,_,_,_,_,rfl,?_⟩
   refine Ab2 hS ?_;clear hS;intro rr w hS
   refine Aa8 hS rfl rfl ?_;clear hS;intro w hS
   refine Aa8 hS rfl rfl ?_;clear hS;intro w hS
   cases ok with
   | false=>
     rw [nF]
     cases Option.some.inj (show some _=some _ from hx)
     exact hnil _ hS.drop.mbDrop.drop rfl
   | true=>
     rw [nT]
     replace hx:=bnd (show (Fa0 n (vals M1)).bind _=_ from hx)
     obtain ⟨cs,hcs,hx⟩:=hx
     replace hx:cond (decide (cs.length≤1000000)) (Df3 low cs 0 []) none=some (u0,u1):=hx
     have hcl:cs.length≤1000000:=by
      rcases Nat.lt_or_ge 1000000 cs.length with h | h
      · rw [decide_eq_false (by omega)] at hx;cases hx
      · exact h
     rw [decide_eq_true hcl,cT] at hx
     refine Fo5 H (O:=O) (low := .int .i64 low) (M:=M1) (n:=n) ac (by omega) hcs hS ?_
     clear hS;rintro h ds w hds hS
     refine ⟨_,_,_,rfl,?_⟩
     have hhl:h.2.1=ds.length:=by
      have:=(slA.rd (hS.hold _ (AD ..))).len
      simpa using this
     have hdl:ds.length=cs.length:=by rw [← hds];simp
     generalize hZ:Bk4 N.Hr0 N.Hq9 N.Ho7 (h,ds)++MQ N rr O (.int .i64 low) M1 (cl r1 [.int .i64 (n:Int),.int .i64 (n:Int),.slice qa ql qc] N.Hs3::L)=Z at *
     have hZr:cl rr [.slice O.1 O.2.1 O.2.2,.int .i64 low] N.Hi4∈Z:=by rw [← hZ];exact AK _ (AD ..)
     have hZd:∀ d,d∈ds→bgI N.Hr0 N.Hq9 d∈Z:=fun d hd=>by rw [← hZ];exact AL _ (AA _ (List.mem_map.2 ⟨d,hd,rfl⟩))
     have hZs:sl h.1 h.2.1 h.2.2 ((ds.map BgD.r).map Bk3) N.Ho7∈Z:=by rw [← hZ];exact AL _ (AD ..)
     have hZL:∀ {f:World} {a b:It},Ho w0 f (a::b::Z)→Ho w0 f (a::b::L):=fun h=>by
      refine h.sub (.cons_cons _ (.cons_cons _ ?_))
      rw [← hZ]
      refine List.Sublist.trans ?_ (AJ _ _)
      unfold MQ An9
      exact .cons _ (.cons _ (List.Sublist.trans (.cons _ (List.Sublist.refl _)) (AJ _ _)))
     refine Aa9 (fun s w=>∃ (a':Option Addr) (m' c':Nat) (acc:List Dy) (hA:List Hd) (it:It),s=((a',m',c'),())∧acc.reverse=u0∧u1=0∧acc.length≤1000000∧AllD [it] acc hA∧Ho w0 w (sl a' (m'*3) (c'*3) (dyC acc hA) N.Hs7::it::L)) (fun J hJ=>?_) ?_
     · refine As0 (fun k s w=>∃ (a':Option Addr) (m' c':Nat) (acc:List Dy) (hA:List Hd) (it:It),s=((a',m',c'),(k:Int),())∧acc.length=k∧Df3 low (cs.drop k) k acc=some (u0,u1)∧AllD [it] acc hA∧Ho w0 w (sl a' (m'*3) (c'*3) (dyC acc hA) N.Hs7::it::Z)) cs.length
        ⟨none,0,0,[],[],_,rfl,rfl,by simpa using hx,.nil,hS.voidItem.noneD⟩ ?_ ?_
       rotate_left
       · rintro s w X ⟨a',m',c',acc,hA,it,rfl,hal,hp,hg,hS⟩
         dsimp only
         refine Ab7 (fun hc=>?_) (fun _=>?_)
         · simp [hhl,hdl] at hc
         rw [List.drop_length] at hp
         cases Option.some.inj (show some (acc.reverse,(0:Int))=_ from hp)
         exact hJ _ _ ⟨a',m',c',acc,hA,it,rfl,rfl,rfl,by omega,hg,hZL hS⟩
       clear hS
       rintro k s w X hk ⟨a',m',c',acc,hA,it,rfl,hal,hp,hg,hS⟩ hX
       dsimp only
       refine Ab7 (fun _=>?_) (fun hc=>?_)
       rotate_left
       · simp [hhl,hdl] at hc;omega
       have hdk:ds[k]?=some (ds[k]'(by omega)):=AC _
       generalize (ds[k]'(by omega))=d at hdk
       have hck:cs[k]?=some d.z:=by rw [← hds,AI,hdk];rfl
       have hdr:cs.drop k=d.z::cs.drop (k+1):=by
        obtain ⟨ad,e⟩:=List.getElem?_eq_some_iff.1 hck
        rw [← e]
        exact List.drop_eq_getElem_cons ad
       rw [hdr] at hp
       obtain ⟨⟨e0,o,e2,e3⟩,hto,hp⟩:=bnd (show (Ao2 d.z _).bind _=_ from hp)
       dsimp only at hp
       refine Fx9 (h:=h) hS (AA _ (AA _ hZs)) hdk rfl ?_
       intro b1 _
       refine ⟨_,hS.cel (AA _ (AA _ hZr)) (i:=1) rfl,?_⟩
       refine Cr2 H hS (Ent.bg (AA _ (AA _ (hZd d (AW hdk))))) hto ?_
       clear hS;intro t u v w hS
       refine ⟨_,_,_,_,_,_,rfl,?_⟩
       refine Ab2 hS ?_;clear hS;intro af w hS
       refine Aa8 hS rfl rfl ?_;clear hS;intro w hS
       refine Aa8 hS rfl rfl ?_;clear hS;intro w hS
       refine Aa8 hS rfl rfl ?_;clear hS;intro w hS
       refine Ab7 (fun hc=>?_) (fun hc=>?_)
       · rw [show (e3 != 0)=true from hc,cT] at hp
         cases Option.some.inj (show some (([]:List Dy),(3:Int))=_ from hp)
         exact hnil _ (hZL hS.drop.drop).drop.drop rfl
       rw [show (e3 != 0)=false from hc,cF] at hp
       refine ⟨_,hS.cel mp0 (i:=0) rfl,_,_,_,hS.cel mp0 (i:=1) rfl,_,hS.cel mp0 (i:=2) rfl,?_⟩
       replace hS:=hS.drop
       have hz:Ent [sl t u v (List.map (AV .u64) o) N.Hr2] (rdA (List.map (AV .u64) o) t u v):=Ent.sl mp0
       replace hS:=(hS.perm (((List.Perm.swap _ _ _).cons _).trans (.refl _))).both
       replace hz:=Ent.both (L:=[]) (y:=it) (hz.mono (Ad4 mp0))
       replace hg:=AllD.both (L:=[]) (x:=sl t u v (List.map (AV .u64) o) N.Hr2) (hg.mono (Ad4 mp1))
       refine Bm3 (X:=[(e0,o,e2)]) (H:=[(t,u,v)]) (m:=1) hS rfl rfl rfl ?_
       clear hS;intro rl w hS
       have hlit:=slA.rd (hS.hold _ (AD ..))
       replace hS:=hS.drop.flip2
       refine Bu3 (X:=acc) (H:=hA) (Y:=[(e0,o,e2)]) (G:=[(t,u,v)]) hS (by simp;omega) hg.len rfl hlit rfl rfl ?_
       clear hS hlit;intro a2 c2 w hS
       refine hX _ _ ⟨a2,m'+1,c2,acc ++ [(e0,o,e2)],hA ++ [(t,u,v)],_,by rw [wrU (by omega)],by simp [hal],hp,hg.append (AllD.one hz),hS⟩
     clear hS
     rintro s w ⟨a',m',c',acc,hA,it,rfl,rfl,rfl,hal,hg,hS⟩
     refine Ex5 H (p:=[it]) hS hg (by omega) ?_
     clear hS;intro h1 w ae hS
     refine ⟨rfl,?_⟩
     exact hK a' m' c' h1 it w (fun L1 hi=>ae.mono (Ad4 hi)) hS
end
end Go.Eng
