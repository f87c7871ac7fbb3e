/-
  slices.Clone and slices.Reverse over dyads. No condition.
-/
import Derived.Test.YtlnelldekejadaaTw5
import Derived.Test.YtlnelldekejadaaPl
import Derived.Test.YtlnelldekejadaaSh
import Derived.Test.YtlnelldekejadaaMx7
import Derived.Test.YtlnelldekejadaaIne5
set_option linter.all false
set_option maxRecDepth 100000
set_option maxHeartbeats 4000000
namespace Go.Eng
open Go
def rvD {α:Type} (d:α) (n:Nat):Nat→List α→List α
  | 0,l=>l
  | k+1,l=>((rvD d n k l).set k ((rvD d n k l).getD (n-1-k) d)).set (n-1-k) ((rvD d n k l).getD k d)
theorem rvD_len {α:Type} (d:α) (n:Nat) (l:List α):∀ k,(rvD d n k l).length=l.length
  | 0=>rfl
  | k+1=>by
    show (((rvD d n k l).set k _).set (n-1-k) _).length=_
    rw [List.length_set,List.length_set];exact rvD_len d n l k
theorem rvD_get {α:Type} (d:α) {n:Nat} {l:List α} (hl:l.length=n):∀ {k:Nat},2*k≤n→∀ i,i<n→(rvD d n k l).getD i d=if i<k∨n-1-k<i then l.getD (n-1-i) d else l.getD i d
  | 0,_,i,hi=>by
    rw [if_neg (by omega)];rfl
  | k+1,hk,i,hi=>by
    have ih:=rvD_get d hl (k:=k) (by omega)
    have hlen:=rvD_len d n l k
    show ((((rvD d n k l).set k ((rvD d n k l).getD (n-1-k) d)).set (n-1-k) ((rvD d n k l).getD k d))).getD i d=_
    rw [ih k (by omega),ih (n-1-k) (by omega),List.getD_eq_getElem?_getD]
    by_cases e1:i=n-1-k
    · subst e1
      rw [List.getElem?_set_self (by rw [List.length_set];omega),Option.getD_some]
      by_cases e2:n-1-k=k
      · rw [if_neg (by omega),if_pos (by omega)]
        congr 1;omega
      · rw [if_neg (by omega),if_pos (by omega)]
        congr 1;omega
    · rw [List.getElem?_set_ne (by omega)]
      by_cases e2:i=k
      · subst e2
        rw [List.getElem?_set_self (by omega),Option.getD_some,if_neg (by omega),if_pos (by omega)]
      · rw [List.getElem?_set_ne (by omega),← List.getD_eq_getElem?_getD,ih i hi]
        by_cases e3:i<k∨n-1-k<i
        · rw [if_pos e3,if_pos (by omega)]
        · rw [if_neg e3,if_neg (by omega)]
theorem rvD_rev {α:Type} (d:α) {n:Nat} {l:List α} (hl:l.length=n) {k:Nat} (h1:2*k≤n) (h2:n≤2*k+1):rvD d n k l=l.reverse:=by
  refine List.ext_getElem (by rw [rvD_len,List.length_reverse]) fun i hi1 hi2=>?_
  rw [rvD_len] at hi1
  have:=rvD_get d hl h1 i (by omega)
  have e1:(rvD d n k l).getD i d=(rvD d n k l)[i]'(by rw [rvD_len];exact hi1):=by
    rw [List.getD_eq_getElem?_getD,List.getElem?_eq_getElem (by rw [rvD_len];exact hi1)];rfl
  rw [← e1,this,List.getElem_reverse]
  have e2:∀ j,(hj:j<l.length)→l.getD j d=l[j]:=fun j hj=>by
    rw [List.getD_eq_getElem?_getD,List.getElem?_eq_getElem hj];rfl
  split
  · rw [e2 _ (by omega)];congr 1;omega
  · rw [e2 _ (by omega)];congr 1;omega
theorem loop_nn {σ:Type} {body:σ→(σ→World→Prop)→World→Prop} (I:Nat→σ→World→Prop) (n:Nat) {s0:σ} {w:World} (h0:I 0 s0 w)
    (step:∀ k s w (X:σ→World→Prop),k<n→I k s w→(∀ s' w',I (k+1) s' w'→X s' w')→body s X w)
    (stop:∀ s w (X:σ→World→Prop),I n s w→body s X w):loopM body s0 w:=by
  intro X hX
  have key:∀ m k s w,k+m=n→I k s w→X s w:=by
    intro m
    induction m with
    | zero=>
        intro k s w hk hI;obtain rfl:k=n:=by omega
        exact hX _ _ (stop s w X hI)
    | succ m ih=>intro k s w hk hI;exact hX _ _ (step k s w X (by omega) hI fun s' w' h=>ih (k+1) s' w' (by omega) h)
  exact key n 0 s0 w (by omega) h0
section
variable {N:Nums} {P:Program} (H:AllOk N P)
include H
theorem wk_clone {w0 w:World} {L:List It} {q0:Option Addr} {q0l q0c:Nat} {hh:List Hd} {l:List Dy} (hS:Ho w0 w L) (hq:Ent L (rdA (dyC l hh) q0 (q0l*3) (q0c*3))) (g:AllD L l hh) (hl:l.length≤4294967296) {K:Value→World→Prop}
    (hK:∀ (a:Option Addr) (n c:Nat) (w1:World),Ho w0 w1 (sl a (n*3) (c*3) (dyC l hh) N.t_Dyad::L)→K (.slice a n c) w1):CallsX P N.f_slices_Clone___api_Dyad_api_Dyad #[.slice q0 q0l q0c] w K:=by
  refine H.slices_Clone___api_Dyad_api_Dyad _ _ _ w _ ?_
  unfold S_slices_Clone___api_Dyad_api_Dyad
  have hr:=hq.now (fun _ h=>h) hS
  have hn:=hr.len
  rw [dyC_len g.len] at hn
  refine cond_i (fun hc=>?_) (fun hc=>?_)
  · have h0:l.length=0:=by
      rcases Nat.eq_zero_or_pos l.length with h | h
      · exact h
      · obtain ⟨y,hy,_⟩:=hr.at_ 0 (by omega)
        rw [hy] at hc;cases hc
    obtain rfl:=List.eq_nil_of_length_eq_zero h0
    have:=g.len
    obtain rfl:hh = []:=List.eq_nil_of_length_eq_zero (by rw [← this];rfl)
    exact hK none 0 0 w hS.noneD
  · refine litD_s (X:=[]) (H:=[]) (m:=0) hS rfl rfl rfl ?_
    clear hS;intro r w hS
    refine appD_s (X:=[]) (H:=[]) hS (by simpa using hl) rfl g.len (hq.now (fun _ h=>List.mem_cons_of_mem _ h) hS) rfl rfl ?_
    clear hS;intro a' c' w hS
    exact hK _ _ _ w hS
theorem wk_reverse {w0 w:World} {L:List It} {q0:Option Addr} {q0l q0c:Nat} {hh:List Hd} {l:List Dy} {p:List It} (hS:Ho w0 w (sl q0 (q0l*3) (q0c*3) (dyC l hh) N.t_Dyad::L)) (g:AllD p l hh) (hl:l.length≤4294967296) {K:Value→World→Prop}
    (hK:∀ (h1:List Hd) (w1:World),AllD p l.reverse h1→Ho w0 w1 (sl q0 (q0l*3) (q0c*3) (dyC l.reverse h1) N.t_Dyad::L)→K (.tuple #[]) w1):CallsX P N.f_slices_Reverse___api_Dyad_api_Dyad #[.slice q0 q0l q0c] w K:=by
  refine H.slices_Reverse___api_Dyad_api_Dyad _ _ _ w _ ?_
  unfold S_slices_Reverse___api_Dyad_api_Dyad
  have hn:q0l=l.length:=by
    have:=(slA.rd (hS.hold _ (List.mem_cons_self ..))).len
    rw [dyC_len g.len] at this;omega
  subst hn
  generalize hnn:l.length=n at *
  refine cutM_i (fun _ w=>∃ h1,AllD p l.reverse h1∧Ho w0 w (sl q0 (n*3) (q0c*3) (dyC l.reverse h1) N.t_Dyad::L)) (fun J hJ=>?_) ?_
  rotate_left
  · rintro s w ⟨h1,g1,hS⟩
    exact hK h1 w g1 hS
  have e0:IntKind.i64.wrap (((n:Nat):Int)-1)=((n:Nat):Int)-1-((0:Nat):Int):=by rw [wrI (by omega) (by omega)];omega
  rw [e0]
  refine loop_nn (fun k s w=>s=((k:Int),((n:Nat):Int)-1-(k:Int),())∧∃ h1,AllD p (rvD (false,[],0) n k l) h1∧Ho w0 w (sl q0 (n*3) (q0c*3) (dyC (rvD (false,[],0) n k l) h1) N.t_Dyad::L)) (n/2) ⟨rfl,hh,g,hS⟩ ?_ ?_
  rotate_left
  · rintro s w X ⟨rfl,h1,g1,hS⟩
    dsimp only
    refine cond_i (fun hc=>?_) (fun _=>?_)
    · simp at hc;omega
    refine hJ _ _ ⟨h1,?_⟩
    rw [rvD_rev _ hnn (by omega) (by omega)] at g1 hS
    exact ⟨g1,hS⟩
  rintro k s w X hk ⟨rfl,h1,g1,hS⟩ hX
  dsimp only
  have hlen:=rvD_len ((false,[],0):Dy) n l k
  have hstep:rvD ((false,[],0):Dy) n (k+1) l=((rvD (false,[],0) n k l).set k ((rvD (false,[],0) n k l).getD (n-1-k) (false,[],0))).set (n-1-k) ((rvD (false,[],0) n k l).getD k (false,[],0)):=rfl
  generalize rvD ((false,[],0):Dy) n k l=Y at *
  refine cond_i (fun _=>?_) (fun hc=>?_)
  rotate_left
  · simp at hc;omega
  have ej:((n:Nat):Int)-1-(k:Int)=((n-1-k:Nat):Int):=by omega
  rw [ej]
  -- both places
  have hj1:Y[n-1-k]?=some (Y.getD (n-1-k) (false,[],0)):=by
    rw [List.getD_eq_getElem?_getD,List.getElem?_eq_getElem (by omega)];rfl
  have hk1:Y[k]?=some (Y.getD k (false,[],0)):=by
    rw [List.getD_eq_getElem?_getD,List.getElem?_eq_getElem (by omega)];rfl
  generalize Y.getD (n-1-k) (false,[],0)=yj at *
  generalize Y.getD k (false,[],0)=yk at *
  obtain ⟨gj,hgj,ej1⟩:=g1.get hj1
  obtain ⟨gk,hgk,ek1⟩:=g1.get hk1
  have hr:=slA.rd (hS.hold _ (List.mem_cons_self ..))
  have tj:(((n-1-k:Nat):Int)).toNat=n-1-k:=Int.toNat_natCast _
  have tk:(((k:Nat):Int)).toNat=k:=Int.toNat_natCast _
  refine idxD_s g1.len hr (by omega) (by rw [tj];omega) ?_
  intro b hb
  refine ⟨_,rdD0 hr hb (by rw [tj];exact hj1) (by rw [tj];exact hgj),_,_,_,rdD1 hr hb (by rw [tj];exact hj1) (by rw [tj];exact hgj),_,rdD2 hr hb (by rw [tj];exact hj1) (by rw [tj];exact hgj),?_⟩
  refine idxD_s g1.len hr (by omega) (by rw [tk];omega) ?_
  intro b2 hb2
  refine ⟨_,rdD0 hr hb2 (by rw [tk];exact hk1) (by rw [tk];exact hgk),_,_,_,rdD1 hr hb2 (by rw [tk];exact hk1) (by rw [tk];exact hgk),_,rdD2 hr hb2 (by rw [tk];exact hk1) (by rw [tk];exact hgk),?_⟩
  refine idxD_s g1.len hr (by omega) (by rw [tk];omega) ?_
  intro b3 hb3
  refine drM_s hS ?_;clear hS;intro w hS
  refine stoD_s (i:=(k:Int)) (x:=yj) (g:=gj) hS g1.len hb3 (by rw [tk];omega) ?_
  clear hS;intro w hS
  rw [tk] at hS
  have g2:=g1.set ej1 k
  have hr2:=slA.rd (hS.hold _ (List.mem_cons_self ..))
  refine idxD_s g2.len hr2 (by omega) (by rw [tj,List.length_set];omega) ?_
  intro b4 hb4
  refine drM_s hS ?_;clear hS;intro w hS
  refine stoD_s (i:=((n-1-k:Nat):Int)) (x:=yk) (g:=gk) hS g2.len hb4 (by rw [tj,List.length_set];omega) ?_
  clear hS;intro w hS
  rw [tj] at hS
  refine drM_s hS ?_;clear hS;intro w hS
  have g3:=g2.set ek1 (n-1-k)
  refine hX _ _ ⟨?_,(h1.set k gj).set (n-1-k) gk,?_,?_⟩
  · rw [wrU (by omega),wrI (by omega) (by omega)]
    congr 2
    omega
  · rw [hstep];exact g3
  · rw [hstep];exact hS
end
end Go.Eng
/-
  Matrices of pointers without a struct ahead: made, grown by a place, read, changed in place. No condition.
-/
set_option maxRecDepth 100000
set_option maxHeartbeats 4000000
namespace Go.Eng
open Go
def mxB (I E tL tO:Nat) (O:Hd) (M:List Rw) (L:List It):List It:=mxO tO O M::(mxR I E tL M++L)
section
variable {I E tL tO tR q:Nat} {O:Hd} {low:Value} {M:List Rw} {L:List It} {w0 w:World} {i j:Nat} {x:Rw} {d d':BgD} {y:It}
theorem mxB_push:(y::mxB I E tL tO O M L).Perm (mxB I E tL tO O M (y::L)):=by
  unfold mxB
  exact (List.Perm.swap _ _ _).trans (.cons _ List.perm_middle.symm)
theorem Ho.mbPush (hS:Ho w0 w (y::mxB I E tL tO O M L)):Ho w0 w (mxB I E tL tO O M (y::L)):=hS.perm mxB_push
theorem Ho.mbPop (hS:Ho w0 w (mxB I E tL tO O M (y::L))):Ho w0 w (y::mxB I E tL tO O M L):=hS.perm mxB_push.symm
theorem mxB_tail (h:y∈L):y∈mxB I E tL tO O M L:=List.mem_cons_of_mem _ (List.mem_append_right _ h)
theorem Ho.mbOr (hS:Ho w0 w (mxB I E tL tO O M L)):rdA ((M.map Prod.fst).map hdV) O.1 O.2.1 O.2.2 w:=slA.rd (hS.hold _ (List.mem_cons_self ..))
theorem Ho.mbLen (hS:Ho w0 w (mxB I E tL tO O M L)):O.2.1=M.length:=by
  have:=hS.mbOr.len
  simpa using this
theorem Ho.mbRr (hS:Ho w0 w (mxB I E tL tO O M L)) (hx:M[i]?=some x):rdA ((x.2.map BgD.r).map ptrV) x.1.1 x.1.2.1 x.1.2.2 w:=
  slA.rd (t:=tL) (hS.hold _ (List.mem_cons_of_mem _ (List.mem_append_left _ (mx_memR hx (List.mem_cons_self ..)))))
def mbBut (I E tL tO:Nat) (O:Hd) (M:List Rw) (L:List It) (i j:Nat) (x:Rw):List It:=mxO tO O M::(mxZ I E tL M i j x++L)
theorem Ho.mbOut (hS:Ho w0 w (mxB I E tL tO O M L)) (hx:M[i]?=some x) (hd:x.2[j]?=some d):Ho w0 w (bg I E d.r d.a d.n d.c d.z::mbBut I E tL tO O M L i j x):=by
  refine hS.perm ?_
  unfold mxB mbBut
  exact (((mx_take hx hd).append_right L).cons _).trans (.swap _ _ _)
theorem Ho.mbIn (hx:M[i]?=some x) (hd:x.2[j]?=some d) (hr:d'.r=d.r) (hS:Ho w0 w (bg I E d'.r d'.a d'.n d'.c d'.z::mbBut I E tL tO O M L i j x)):Ho w0 w (mxB I E tL tO O (M.set i (x.1,x.2.set j d')) L):=by
  refine hS.perm ?_
  unfold mxB mbBut
  have e:mxO tO O (M.set i (x.1,x.2.set j d'))=mxO tO O M:=by unfold mxO;rw [heads_set hx]
  rw [e]
  exact (List.Perm.swap _ _ _).trans (((mx_put (I:=I) (E:=E) (tL:=tL) hx hd hr).append_right L).cons _)
theorem mbBut_tail (h:y∈L):y∈mbBut I E tL tO O M L i j x:=List.mem_cons_of_mem _ (List.mem_append_right _ h)
theorem mxR_none (hS:Ho w0 w L):∀ n:Nat,Ho w0 w (mxR I E tL (List.replicate n ((none,0,0),[]))++L)
  | 0=>hS
  | n+1=>by
    have h1:=mxR_none hS n
    exact h1.none (α:=Nat) (enc:=ptrV) (t:=tL)
theorem mkB_s {n:Nat} {K:Addr→World→Prop} (hS:Ho w0 w L) (hn:n≤1099511627776)
    (hk:∀ (r:Nat) (w':World),Ho w0 w' (mxB I E tL tO (some ⟨r,0,none⟩,n,n) (List.replicate n ((none,0,0),[])) L)→K ⟨r,0,none⟩ w'):mkM tO 1 24 #[.slice none 0 0] (n:Int) (n:Int) w K:=by
  refine mk_s (enc:=hdV) (z:=(none,0,0)) hS ⟨by omega,by omega,by omega⟩ rfl ?_
  intro r w' h
  refine hk r w' ?_
  rw [Int.toNat_natCast] at h
  have h2:Ho w0 w' (mxR I E tL (List.replicate n ((none,0,0),[]))++(sl (some ⟨r,0,none⟩) n n ((List.replicate n ((none:Option Addr),0,0)).map hdV) tO::L)):=mxR_none h n
  refine h2.perm ?_
  unfold mxB mxO
  have e:(List.replicate n (((none:Option Addr),0,0),([]:List BgD))).map Prod.fst=List.replicate n ((none:Option Addr),0,0):=List.map_replicate
  rw [e]
  exact List.perm_middle
theorem Ho.mbRow (hS:Ho w0 w (mxB I E tL tO O M L)) (hx:M[i]?=some x):Ho w0 w (sl x.1.1 x.1.2.1 x.1.2.2 ((x.2.map BgD.r).map ptrV) tL::(mxO tO O M::((x.2.map (bgI I E)++mxR I E tL (M.eraseIdx i))++L))):=by
  refine hS.perm ?_
  unfold mxB
  exact (((mxR_at hx).append_right L).cons _).trans (.swap _ _ _)
theorem Ho.mbGrow {h:Hd} (hx:M[i]?=some x) (hS:Ho w0 w (sl O.1 O.2.1 O.2.2 (((M.map Prod.fst).set i h).map hdV) tO::sl h.1 h.2.1 h.2.2 (((x.2.map BgD.r) ++ [d'.r]).map ptrV) tL::((x.2.map (bgI I E)++mxR I E tL (M.eraseIdx i))++(bg I E d'.r d'.a d'.n d'.c d'.z::L)))):Ho w0 w (mxB I E tL tO O (M.set i (h,x.2 ++ [d'])) L):=by
  refine hS.perm ?_
  unfold mxB mxO
  have e0:(M.set i (h,x.2 ++ [d'])).map Prod.fst=(M.map Prod.fst).set i h:=by rw [List.map_set]
  rw [e0]
  refine .cons _ ?_
  refine List.Perm.trans ?_ ((mxR_set (I:=I) (E:=E) (tL:=tL) (x':=(h,x.2 ++ [d'])) hx).symm.append_right L)
  unfold rowI
  dsimp only
  have e1:(x.2 ++ [d']).map BgD.r=x.2.map BgD.r ++ [d'.r]:=by rw [List.map_append];rfl
  have e2:(x.2 ++ [d']).map (bgI I E)=x.2.map (bgI I E) ++ [bgI I E d']:=by rw [List.map_append];rfl
  rw [e1,e2]
  refine .cons _ ?_
  show ((x.2.map (bgI I E)++mxR I E tL (M.eraseIdx i))++(bgI I E d'::L)).Perm ((x.2.map (bgI I E) ++ [bgI I E d'])++mxR I E tL (M.eraseIdx i)++L)
  rw [List.append_assoc,List.append_assoc,List.append_assoc]
  refine List.Perm.append_left _ ?_
  exact List.perm_middle
end
end Go.Eng
/-
  Matrices of pointers: a row grows by a number. No condition.
-/
set_option maxRecDepth 100000
set_option maxHeartbeats 4000000
namespace Go.Eng
open Go
section
variable {I E tL tO tR q:Nat} {O:Hd} {low:Value} {M:List Rw} {L:List It} {w0 w:World} {i j:Nat} {x:Rw} {d d':BgD} {y:It}
def mbG (I E tL tO:Nat) (O:Hd) (M:List Rw) (i:Nat) (x:Rw) (d':BgD) (L:List It):List It:=mxO tO O M::((x.2.map (bgI I E)++mxR I E tL (M.eraseIdx i))++(bg I E d'.r d'.a d'.n d'.c d'.z::L))
theorem grow_s {pr e:Nat} {K:Option Addr→Nat→Nat→World→Prop} (hS:Ho w0 w (sl (some ⟨pr,0,none⟩) 1 1 ([d'.r].map ptrV) e::mxB I E tL tO O M (bg I E d'.r d'.a d'.n d'.c d'.z::L))) (hx:M[i]?=some x) (hl:x.2.length+1≤4294967296)
    (hK:∀ (a':Option Addr) (c':Nat) (w':World),Ho w0 w' (sl a' (x.1.2.1+1) c' ((x.2.map BgD.r ++ [d'.r]).map ptrV) tL::mbG I E tL tO O M i x d' L)→K a' (x.1.2.1+1) c' w'):appM tL 1 8 #[.pointer none] x.1.1 x.1.2.1 x.1.2.2 (some ⟨pr,0,none⟩) 1 w K:=by
  have h1:=(hS.mbPush).mbRow hx
  have hlit:rdA ([d'.r].map ptrV) (some ⟨pr,0,none⟩) 1 1 w:=slA.rd (hS.hold _ (List.mem_cons_self ..))
  refine app_s (ws:=x.2.map BgD.r) (ks:=[d'.r]) h1 (by simpa using hl) hlit (fun _=>rfl) rfl ?_
  intro a' c' w' h2
  refine hK a' c' w' (h2.sub ?_)
  unfold mbG
  refine List.Sublist.cons_cons _ (List.Sublist.cons_cons _ ?_)
  exact (List.Sublist.refl _).append (List.sublist_cons_self _ _)
theorem growSt_s {a':Option Addr} {n' c':Nat} {b:Addr} {K:World→Prop} (hS:Ho w0 w (sl a' n' c' ((x.2.map BgD.r ++ [d'.r]).map ptrV) tL::mbG I E tL tO O M i x d' L)) (hx:M[i]?=some x) (ha:O.1=some b)
    (hK:∀ w':World,Ho w0 w' (mxB I E tL tO O (M.set i ((a',n',c'),x.2 ++ [d'])) L)→K w'):stM (b.add (((i:Nat):Int).toNat*1)) (.slice a' n' c') w K:=by
  have h1:=hS.perm (.swap _ _ _)
  refine sto_s (ws:=M.map Prod.fst) (enc:=hdV) (y:=(a',n',c')) h1 ha (by rw [Int.toNat_natCast,List.length_map];exact get_lt hx) ?_
  intro w' h2
  rw [Int.toNat_natCast] at h2
  exact hK w' (Ho.mbGrow (h:=(a',n',c')) hx h2)
end
end Go.Eng
/-
  Matrices of pointers anywhere in what is held: reading. No condition.
-/
set_option maxRecDepth 100000
set_option maxHeartbeats 4000000
namespace Go.Eng
open Go
section
variable {I E tL tO tR q:Nat} {O:Hd} {low:Value} {M:List Rw} {L Z:List It} {w0 w:World} {i j:Nat} {x:Rw} {d d':BgD} {y:It}
def MIn (I E tL tO:Nat) (O:Hd) (M:List Rw) (Z:List It):Prop:=mxO tO O M∈Z∧∀ e,e∈mxR I E tL M→e∈Z
theorem MIn.row (h:MIn I E tL tO O M Z) (hx:M[i]?=some x):sl x.1.1 x.1.2.1 x.1.2.2 ((x.2.map BgD.r).map ptrV) tL∈Z:=h.2 _ (mx_memR hx (List.mem_cons_self ..))
theorem MIn.bg (h:MIn I E tL tO O M Z) (hx:M[i]?=some x) (hd:x.2[j]?=some d):bgI I E d∈Z:=h.2 _ (mx_mem hx hd)
theorem MIn.ent (h:MIn I E tL tO O M Z) (hx:M[i]?=some x) (hd:x.2[j]?=some d):Ent Z (bgR I d.r d.a d.n d.c d.z):=Ent.bg (h.bg hx hd)
theorem MIn.sub {Z':List It} (h:MIn I E tL tO O M Z) (hs:∀ e,e∈Z→e∈Z'):MIn I E tL tO O M Z':=⟨hs _ h.1,fun e he=>hs _ (h.2 e he)⟩
theorem MIn.cons (h:MIn I E tL tO O M Z):MIn I E tL tO O M (y::Z):=h.sub fun _ he=>List.mem_cons_of_mem _ he
theorem MIn.app (h:MIn I E tL tO O M Z) {X:List It}:MIn I E tL tO O M (X++Z):=h.sub fun _ he=>List.mem_append_right _ he
theorem MIn.here:MIn I E tL tO O M (mxB I E tL tO O M L):=⟨List.mem_cons_self ..,fun _ he=>List.mem_cons_of_mem _ (List.mem_append_left _ he)⟩
theorem MIn.all:MIn I E tL tO O M (mxAll I E tL tO tR q O low M L):=(MIn.here (L:=L)).cons
theorem MIn.under {O2:Hd} {M2:List Rw} (h:MIn I E tL tO O M L):MIn I E tL tO O M (mxB I E tL tO O2 M2 L):=h.sub fun _ he=>mxB_tail he
theorem rd_rowM {ii:Int} {K:Addr→Option Addr→Nat→Nat→Prop} (hS:Ho w0 w Z) (h:MIn I E tL tO O M Z) (hx:M[i]?=some x) (hi:ii=(i:Int))
    (hK:∀ a:Addr,O.1=some a→K a x.1.1 x.1.2.1 x.1.2.2) :
    (0:Int)≤ii∧ii<(O.2.1:Nat)∧optM O.1 fun a2=>∃ (s2:Option Addr) (l2 c2:Nat),w.cell? (a2.add (ii.toNat*1))=some (.slice s2 l2 c2)∧K a2 s2 l2 c2:=by
  subst hi
  have hr:rdA ((M.map Prod.fst).map hdV) O.1 O.2.1 O.2.2 w:=slA.rd (hS.hold _ h.1)
  have hg:(M.map Prod.fst)[((i:Nat):Int).toNat]?=some x.1:=by
    rw [Int.toNat_natCast,List.getElem?_map,hx];rfl
  refine idx_s hr hg (by omega) (get_lt hg) ?_
  intro b hb
  exact ⟨_,_,_,rdL_get hr hb hg,hK b hb⟩
theorem rd_ptM {jj:Int} {K:Addr→Option Addr→Prop} (hS:Ho w0 w Z) (h:MIn I E tL tO O M Z) (hx:M[i]?=some x) (hd:x.2[j]?=some d) (hj:jj=(j:Int))
    (hK:∀ b:Addr,x.1.1=some b→K b (some ⟨d.r,0,none⟩)) :
    (0:Int)≤jj∧jj<(x.1.2.1:Nat)∧optM x.1.1 fun a3=>∃ p:Option Addr,w.cell? (a3.add (jj.toNat*1))=some (.pointer p)∧K a3 p:=by
  subst hj
  have hr:rdA ((x.2.map BgD.r).map ptrV) x.1.1 x.1.2.1 x.1.2.2 w:=slA.rd (t:=tL) (hS.hold _ (h.row hx))
  have hg:(x.2.map BgD.r)[((j:Nat):Int).toNat]?=some d.r:=by
    rw [Int.toNat_natCast,List.getElem?_map,hd];rfl
  refine idx_s hr hg (by omega) (get_lt hg) ?_
  intro b hb
  exact ⟨_,rd_get (enc:=ptrV) hr hb hg,hK b hb⟩
theorem rd_ptL {jj:Int} {h:Hd} {ds:List BgD} {K:Addr→Option Addr→Prop} (hS:Ho w0 w Z) (hm:sl h.1 h.2.1 h.2.2 ((ds.map BgD.r).map ptrV) tL∈Z) (hd:ds[j]?=some d) (hj:jj=(j:Int))
    (hK:∀ b:Addr,h.1=some b→K b (some ⟨d.r,0,none⟩)) :
    (0:Int)≤jj∧jj<(h.2.1:Nat)∧optM h.1 fun a3=>∃ p:Option Addr,w.cell? (a3.add (jj.toNat*1))=some (.pointer p)∧K a3 p:=by
  subst hj
  have hr:rdA ((ds.map BgD.r).map ptrV) h.1 h.2.1 h.2.2 w:=slA.rd (t:=tL) (hS.hold _ hm)
  have hg:(ds.map BgD.r)[((j:Nat):Int).toNat]?=some d.r:=by
    rw [Int.toNat_natCast,List.getElem?_map,hd];rfl
  refine idx_s hr hg (by omega) (get_lt hg) ?_
  intro b hb
  exact ⟨_,rd_get (enc:=ptrV) hr hb hg,hK b hb⟩
theorem Ho.mbFlip {z:It} (hS:Ho w0 w (y::mxB I E tL tO O M (z::L))):Ho w0 w (z::mxB I E tL tO O M (y::L)):=
  hS.perm (((mxB_push (y:=z)).symm.cons y).trans ((List.Perm.swap _ _ _).trans (mxB_push.cons z)))
theorem Ho.flip2 {z:It} (hS:Ho w0 w (y::z::L)):Ho w0 w (z::y::L):=hS.perm (.swap _ _ _)
end
def coefAdd (n:Nat) (c:Int):Mt→Option Mt:=foldO (fun i A=>(bigAdd (ent A i i) c).bind fun y=>some (setE A i i y)) n
def coefDot (n:Nat) (V A:Mt) (i j:Nat):Option Int:=foldO (fun h x=>(bigMul (ent V i h) (ent A h j)).bind fun y=>bigAdd x y) n 0
def coefRow (n:Nat) (V A:Mt) (i:Nat):Option (List Int):=foldO (fun j l=>(coefDot n V A i j).bind fun x=>some (l ++ [x])) n []
def coefNext (n:Nat) (V A:Mt):Option (Mt×Int):=foldO (fun i s=>(coefRow n V A i).bind fun r=>(bigAdd s.2 (r.getD i 0)).bind fun t=>some (s.1.set i r,t)) n (List.replicate n [],0)
def coefStep (n:Nat) (V:Mt) (k:Nat) (s:List Int×Mt):Option (List Int×Mt):=
  (coefAdd n (s.1.getD k 0) s.2).bind fun A1=>(coefNext n V A1).bind fun o=>(bigSetInt64 ((k+1:Nat):Int)).bind fun k1=>(bigQuo o.2 k1).bind fun c=>(bigNeg c).bind fun c'=>some (s.1 ++ [c'],o.1)
def coefT (n:Nat) (V:Mt):Option (List Int):=(foldO (coefStep n V) n ([1],List.replicate n (List.replicate n 0))).bind fun s=>some s.1
end Go.Eng
/-
  inertia's rows: coefficients, its first part: a matrix of noughts. No condition.
-/
set_option maxRecDepth 100000
set_option maxHeartbeats 4000000
namespace Go.Eng
open Go
def Bld (n k m:Nat) (M:List Rw):Prop:=M.length=n∧∀ i x,M[i]?=some x→x.2.map BgD.z=List.replicate (if i<k then n else if i=k then m else 0) 0
theorem Bld.start (n:Nat):Bld n 0 0 (List.replicate n ((none,0,0),[])):=by
  refine ⟨by simp,fun i x hx=>?_⟩
  rw [List.getElem?_replicate] at hx
  split at hx
  · cases hx
    rw [if_neg (by omega)]
    split<;>rfl
  · cases hx
theorem Bld.next {n k:Nat} {M:List Rw} (h:Bld n k n M):Bld n (k+1) 0 M:=by
  refine ⟨h.1,fun i x hx=>?_⟩
  rw [h.2 i x hx]
  by_cases c1:i<k
  · rw [if_pos c1,if_pos (by omega)]
  · by_cases c2:i=k
    · rw [if_neg c1,if_pos c2,if_pos (by omega)]
    · rw [if_neg c1,if_neg c2,if_neg (by omega)]
      split<;>rfl
theorem Bld.grow {n k m:Nat} {M:List Rw} {x:Rw} {h:Hd} {d:BgD} (hb:Bld n k m M) (hx:M[k]?=some x) (hz:d.z=0):Bld n k (m+1) (M.set k (h,x.2 ++ [d])):=by
  refine ⟨by rw [List.length_set];exact hb.1,fun i y hy=>?_⟩
  by_cases c:i=k
  · subst c
    rw [List.getElem?_set_self (get_lt hx)] at hy
    cases hy
    have:=hb.2 _ _ hx
    rw [if_neg (by omega),if_pos rfl] at this ⊢
    rw [List.map_append,this,List.replicate_succ']
    simp [hz]
  · rw [List.getElem?_set_ne (by omega)] at hy
    rw [hb.2 i y hy]
    by_cases c1:i<k
    · rw [if_pos c1,if_pos c1]
    · rw [if_neg c1,if_neg c1,if_neg c,if_neg c]
theorem Bld.done {n:Nat} {M:List Rw} (h:Bld n n 0 M):vals M=List.replicate n (List.replicate n 0):=by
  refine List.ext_getElem? fun i=>?_
  rw [List.getElem?_replicate]
  rcases Nat.lt_or_ge i M.length with h1 | h1
  · rw [vals_row (List.getElem?_eq_getElem h1),if_pos (by rw [← h.1];exact h1),h.2 i _ (List.getElem?_eq_getElem h1),if_pos (by rw [← h.1];exact h1)]
  · rw [List.getElem?_eq_none (by rw [vals_len];exact h1),if_neg (by rw [← h.1];omega)]
section
variable {N:Nums} {P:Program} (H:AllOk N P)
include H
theorem noughts {w0 w:World} {Z:List It} {n r8:Nat} {J:Unit→World→Prop} (hn:n≤1073741824)
    (hS:Ho w0 w (mxB N.t_bn_Int N.t_uint32 N.t_p_bn_Int N.t_L_p_bn_Int (some ⟨r8,0,none⟩,n,n) (List.replicate n ((none,0,0),[])) Z))
    (hJ:∀ (M1:List Rw) (w1:World),vals M1=List.replicate n (List.replicate n 0)→Ho w0 w1 (mxB N.t_bn_Int N.t_uint32 N.t_p_bn_Int N.t_L_p_bn_Int (some ⟨r8,0,none⟩,n,n) M1 Z)→J () w1) :
    loopM (σ:=Int×Unit) (fun s13 X14 w15=>
      cond (decide (s13.1<((n:Nat):Int)))
      (cutM (σ:=Unit) (fun J16=>
          loopM (σ:=Int×Unit) (fun s19 X20 w21=>
            cond (decide (s19.1<((n:Nat):Int)))
            ((0:Int)≤s13.1∧s13.1<(((n:Nat):Int).toNat:Nat) ∧
              ∃ (s22a:Option Addr) (s22l s22c:Nat),w21.cell? ((⟨r8,0,none⟩:Addr).add (s13.1.toNat*1))=some (.slice s22a s22l s22c) ∧
              newM #[.bool false,.slice none 0 0] N.t_bn_Int w21 fun p23 w24=>
              newM #[.pointer (some p23)] N.t_p_bn_Int w24 fun p25 w26=>
              appM N.t_p_bn_Int 1 8 #[.pointer none] s22a s22l s22c (some p25) 1 w26 fun s27a s27l s27c w28=>
              (0:Int)≤s13.1∧s13.1<(((n:Nat):Int).toNat:Nat) ∧
              stM ((⟨r8,0,none⟩:Addr).add (s13.1.toNat*1)) (.slice s27a s27l s27c) w28 fun w29=>
              X20 ((IntKind.i64.wrap (s19.1+1)),()) w29)
            (J16 (()) w21))
          (0,()) w15)
        (fun s17 w18=>
          X14 ((IntKind.i64.wrap (s13.1+1)),()) w18))
      (J (()) w15))
    (0,()) w:=by
  refine loop_n (fun k s w=>s=((k:Int),())∧∃ M1:List Rw,Bld n k 0 M1∧Ho w0 w (mxB N.t_bn_Int N.t_uint32 N.t_p_bn_Int N.t_L_p_bn_Int (some ⟨r8,0,none⟩,n,n) M1 Z)) n ⟨rfl,_,Bld.start n,hS⟩ ?_ ?_
  rotate_left
  · rintro s w X ⟨rfl,M1,hb,hS⟩
    dsimp only
    refine cond_i (fun hc=>?_) (fun _=>?_)
    · simp at hc
    exact hJ M1 w hb.done hS
  rintro k s w X hk ⟨rfl,M1,hb,hS⟩ hX
  dsimp only
  refine cond_i (fun _=>?_) (fun hc=>?_)
  rotate_left
  · simp at hc;omega
  refine cutM_i (fun _ w=>∃ M2:List Rw,Bld n k n M2∧Ho w0 w (mxB N.t_bn_Int N.t_uint32 N.t_p_bn_Int N.t_L_p_bn_Int (some ⟨r8,0,none⟩,n,n) M2 Z)) (fun J2 hJ2=>?_) ?_
  rotate_left
  · rintro s w ⟨M2,hb2,hS⟩
    exact hX _ _ ⟨by rw [wrU (by omega)],M2,hb2.next,hS⟩
  refine loop_n (fun m s w=>s=((m:Int),())∧∃ M2:List Rw,Bld n k m M2∧Ho w0 w (mxB N.t_bn_Int N.t_uint32 N.t_p_bn_Int N.t_L_p_bn_Int (some ⟨r8,0,none⟩,n,n) M2 Z)) n ⟨rfl,M1,hb,hS⟩ ?_ ?_
  rotate_left
  · rintro s w X2 ⟨rfl,M2,hb2,hS⟩
    dsimp only
    refine cond_i (fun hc=>?_) (fun _=>?_)
    · simp at hc
    exact hJ2 _ _ ⟨M2,hb2,hS⟩
  rintro m s w X2 hm ⟨rfl,M2,hb2,hS⟩ hX2
  dsimp only
  refine cond_i (fun _=>?_) (fun hc=>?_)
  rotate_left
  · simp at hc;omega
  have hxk:M2[k]?=some (M2[k]'(by rw [hb2.1];exact hk)):=List.getElem?_eq_getElem _
  generalize (M2[k]'(by rw [hb2.1];exact hk))=x at hxk
  have hlen:x.2.length=m:=by
    have:=congrArg List.length (hb2.2 _ _ hxk)
    simpa using this
  rw [Int.toNat_natCast]
  refine ⟨by omega,by omega,?_⟩
  have hg:(M2.map Prod.fst)[((k:Nat):Int).toNat]?=some x.1:=by
    rw [Int.toNat_natCast,List.getElem?_map,hxk];rfl
  refine ⟨_,_,_,rdL_get hS.mbOr rfl hg,?_⟩
  refine newM_s hS ?_
  clear hS;intro rx w hS
  replace hS:=(Ho.bgNew (E:=N.t_uint32) hS).mbPush
  refine lit_s (ks:=[rx]) (enc:=ptrV) (m:=1) hS rfl rfl ?_
  clear hS;intro pr w hS
  refine grow_s (d':=⟨rx,none,0,0,0⟩) hS hxk (by omega) ?_
  clear hS;intro a' c' w hS
  refine ⟨by omega,by omega,?_⟩
  refine growSt_s hS hxk rfl ?_
  clear hS;intro w hS
  exact hX2 _ _ ⟨by rw [wrU (by omega)],_,hb2.grow hxk rfl,hS⟩
end
end Go.Eng
/-
  inertia's rows: coefficients: a place of a product, the diagonal. No condition.
-/
set_option maxRecDepth 100000
set_option maxHeartbeats 4000000
namespace Go.Eng
open Go
section
variable {N:Nums} {P:Program} (H:AllOk N P)
include H
theorem dot_loop {w0 w:World} {R:List It} {n q i j rx ry:Nat} {O OA:Hd} {low:Value} {M MA:List Rw} {ax ay:Option Addr} {nx cx ny cy:Nat} {zy v:Int} {J:Unit→World→Prop} (hn:n≤1073741824) (hi:i<n) (hj:j<n)
    (hqV:Sq n (vals M)) (hqA:Sq n (vals MA)) (hcl:cl q [.slice O.1 O.2.1 O.2.2,low] N.t_inertia_rows∈R) (hV:MIn N.t_bn_Int N.t_uint32 N.t_p_bn_Int N.t_L_p_bn_Int O M R) (hA:MIn N.t_bn_Int N.t_uint32 N.t_p_bn_Int N.t_L_p_bn_Int OA MA R)
    (hd:coefDot n (vals M) (vals MA) i j=some v)
    (hS:Ho w0 w (bg N.t_bn_Int N.t_uint32 ry ay ny cy zy::bg N.t_bn_Int N.t_uint32 rx ax nx cx 0::R))
    (hJ:∀ (a':Option Addr) (n' c':Nat) (w1:World),Ho w0 w1 (bg N.t_bn_Int N.t_uint32 rx a' n' c' v::R)→J () w1) :
    loopM (σ:=Int×Unit) (fun s80 X81 w82=>
                          cond (decide (s80.1<((n:Nat):Int)))
                          (optM (some ⟨q,0,none⟩) fun a83=>
                          ∃ (s84a:Option Addr) (s84l s84c:Nat),w82.cell? a83=some (.slice s84a s84l s84c) ∧
                          (0:Int)≤(i:Int)∧(i:Int)<(s84l:Nat) ∧
                          optM s84a fun a85=>
                          ∃ (s86a:Option Addr) (s86l s86c:Nat),w82.cell? (a85.add ((i:Int).toNat*1))=some (.slice s86a s86l s86c) ∧
                          (0:Int)≤s80.1∧s80.1<(s86l:Nat) ∧
                          optM s86a fun a87=>
                          ∃ p88:(Option Addr),w82.cell? (a87.add (s80.1.toNat*1))=some (.pointer p88) ∧
                          (0:Int)≤s80.1∧s80.1<(OA.2.1:Nat) ∧
                          optM OA.1 fun a89=>
                          ∃ (s90a:Option Addr) (s90l s90c:Nat),w82.cell? (a89.add (s80.1.toNat*1))=some (.slice s90a s90l s90c) ∧
                          (0:Int)≤(j:Int)∧(j:Int)<(s90l:Nat) ∧
                          optM s90a fun a91=>
                          ∃ p92:(Option Addr),w82.cell? (a91.add ((j:Int).toNat*1))=some (.pointer p92) ∧
                          drM w82 fun w93=>
                          CallsX P N.f_bI_Mul #[.pointer (some ⟨ry,0,none⟩),.pointer p88,.pointer p92] w93 fun v95 w94=>
                          ∃ p96:(Option Addr),v95=(.pointer p96) ∧
                          drM w94 fun w97=>
                          CallsX P N.f_bI_Add #[.pointer (some ⟨rx,0,none⟩),.pointer (some ⟨rx,0,none⟩),.pointer p96] w97 fun v99 w98=>
                          ∃ p100:(Option Addr),v99=(.pointer p100) ∧
                          drM w98 fun w101=>
                          X81 ((IntKind.i64.wrap (s80.1+1)),()) w101)
                          (J (()) w82))
                          (0,()) w:=by
  refine loop_n (fun k s w=>s=((k:Int),())∧∃ (t zz:Int) (a1:Option Addr) (n1 c1:Nat) (a2:Option Addr) (n2 c2:Nat),foldO (fun h x=>(bigMul (ent (vals M) i h) (ent (vals MA) h j)).bind fun y=>bigAdd x y) k 0=some t∧Ho w0 w (bg N.t_bn_Int N.t_uint32 ry a1 n1 c1 zz::bg N.t_bn_Int N.t_uint32 rx a2 n2 c2 t::R)) n ⟨rfl,0,zy,ay,ny,cy,ax,nx,cx,rfl,hS⟩ ?_ ?_
  rotate_left
  · rintro s w X ⟨rfl,t,zz,a1,n1,c1,a2,n2,c2,hf,hS⟩
    dsimp only
    refine cond_i (fun hc=>?_) (fun _=>?_)
    · simp at hc
    have:some t=some v:=hf.symm.trans hd
    obtain rfl:=Option.some.inj this
    exact hJ a2 n2 c2 w hS.drop
  rintro k s w X hk ⟨rfl,t,zz,a1,n1,c1,a2,n2,c2,hf,hS⟩ hX
  dsimp only
  refine cond_i (fun _=>?_) (fun hc=>?_)
  rotate_left
  · simp at hc;omega
  obtain ⟨t',ht,hf'⟩:=foldO_at hd hk hf
  obtain ⟨y,hy,ht⟩:=bnd ht
  obtain ⟨xv,dv,hxv,hdv,hzv,_⟩:=sq_ent hqV hi hk
  obtain ⟨xa,da,hxa,hda,hza,_⟩:=sq_ent hqA hk hj
  rw [← hzv,← hza] at hy
  refine optM_s ⟨_,_,_,hS.cel (i:=0) (List.mem_cons_of_mem _ (List.mem_cons_of_mem _ hcl)) rfl,?_⟩
  refine rd_rowM hS hV.cons.cons hxv rfl ?_
  intro b1 _
  refine rd_ptM hS hV.cons.cons hxv hdv rfl ?_
  intro b2 _
  refine rd_rowM hS hA.cons.cons hxa rfl ?_
  intro b3 _
  refine rd_ptM hS hA.cons.cons hxa hda rfl ?_
  intro b4 _
  refine drM_s hS ?_;clear hS;intro w hS
  refine big_Mul_zxy H hS (hV.cons.ent hxv hdv) (hA.cons.ent hxa hda) hy ?_
  clear hS;intro a1 n1 c1 w hS
  refine ⟨_,rfl,?_⟩
  refine drM_s hS ?_;clear hS;intro w hS
  refine big_Add_zzy H hS.flip2 (Ent.bg mp0) ht ?_
  clear hS;intro a2 n2 c2 w hS
  refine ⟨_,rfl,?_⟩
  refine drM_s hS ?_;clear hS;intro w hS
  exact hX _ _ ⟨by rw [wrU (by omega)],t',y,a1,n1,c1,a2,n2,c2,hf',hS.flip2⟩
theorem diag_loop {w0 w:World} {R:List It} {n k:Nat} {OA ho:Hd} {MA:List Rw} {ds:List BgD} {c:BgD} {V':Mt} {J:Unit→World→Prop} (hn:n≤1073741824) (hqA:Sq n (vals MA)) (hm:sl ho.1 ho.2.1 ho.2.2 ((ds.map BgD.r).map ptrV) N.t_p_bn_Int∈R) (hb:bgI N.t_bn_Int N.t_uint32 c∈R) (hc:ds[k]?=some c)
    (hd:coefAdd n c.z (vals MA)=some V')
    (hS:Ho w0 w (mxB N.t_bn_Int N.t_uint32 N.t_p_bn_Int N.t_L_p_bn_Int OA MA R))
    (hJ:∀ (M1:List Rw) (w1:World),vals M1=V'→Sq n (vals M1)→Ho w0 w1 (mxB N.t_bn_Int N.t_uint32 N.t_p_bn_Int N.t_L_p_bn_Int OA M1 R)→J () w1) :
    loopM (σ:=Int×Unit) (fun s39 X40 w41=>
              cond (decide (s39.1<((n:Nat):Int)))
              ((0:Int)≤s39.1∧s39.1<(OA.2.1:Nat) ∧
                optM OA.1 fun a42=>
                ∃ (s43a:Option Addr) (s43l s43c:Nat),w41.cell? (a42.add (s39.1.toNat*1))=some (.slice s43a s43l s43c) ∧
                (0:Int)≤s39.1∧s39.1<(s43l:Nat) ∧
                optM s43a fun a44=>
                ∃ p45:(Option Addr),w41.cell? (a44.add (s39.1.toNat*1))=some (.pointer p45) ∧
                (0:Int)≤s39.1∧s39.1<(OA.2.1:Nat) ∧
                optM OA.1 fun a46=>
                ∃ (s47a:Option Addr) (s47l s47c:Nat),w41.cell? (a46.add (s39.1.toNat*1))=some (.slice s47a s47l s47c) ∧
                (0:Int)≤s39.1∧s39.1<(s47l:Nat) ∧
                optM s47a fun a48=>
                ∃ p49:(Option Addr),w41.cell? (a48.add (s39.1.toNat*1))=some (.pointer p49) ∧
                (0:Int)≤(k:Int)∧(k:Int)<(ho.2.1:Nat) ∧
                optM ho.1 fun a50=>
                ∃ p51:(Option Addr),w41.cell? (a50.add ((k:Int).toNat*1))=some (.pointer p51) ∧
                drM w41 fun w52=>
                CallsX P N.f_bI_Add #[.pointer p45,.pointer p49,.pointer p51] w52 fun v54 w53=>
                ∃ p55:(Option Addr),v54=(.pointer p55) ∧
                drM w53 fun w56=>
                X40 ((IntKind.i64.wrap (s39.1+1)),()) w56)
              (J (()) w41))
            (0,()) w:=by
  refine loop_n (fun m s w=>s=((m:Int),())∧∃ M1:List Rw,foldO (fun i A=>(bigAdd (ent A i i) c.z).bind fun y=>some (setE A i i y)) m (vals MA)=some (vals M1)∧Sq n (vals M1)∧Ho w0 w (mxB N.t_bn_Int N.t_uint32 N.t_p_bn_Int N.t_L_p_bn_Int OA M1 R)) n ⟨rfl,MA,rfl,hqA,hS⟩ ?_ ?_
  rotate_left
  · rintro s w X ⟨rfl,M1,hf,hq,hS⟩
    dsimp only
    refine cond_i (fun hc=>?_) (fun _=>?_)
    · simp at hc
    have:some (vals M1)=some V':=hf.symm.trans hd
    exact hJ M1 w (Option.some.inj this) hq hS
  rintro m s w X hk ⟨rfl,M1,hf,hq,hS⟩ hX
  dsimp only
  refine cond_i (fun _=>?_) (fun hc=>?_)
  rotate_left
  · simp at hc;omega
  obtain ⟨V3,hV3,hf'⟩:=foldO_at hd hk hf
  obtain ⟨y,hy,hV3⟩:=bnd hV3
  obtain rfl:=Option.some.inj hV3
  obtain ⟨x,d,hx,hdd,hz,_⟩:=sq_ent hq hk hk
  rw [← hz] at hy
  refine rd_rowM hS MIn.here hx rfl ?_
  intro b1 _
  refine rd_ptM hS MIn.here hx hdd rfl ?_
  intro b2 _
  refine rd_rowM hS MIn.here hx rfl ?_
  intro b3 _
  refine rd_ptM hS MIn.here hx hdd rfl ?_
  intro b4 _
  refine rd_ptL hS (mxB_tail hm) hc rfl ?_
  intro b5 _
  refine drM_s hS ?_;clear hS;intro w hS
  refine big_Add_zzy H (hS.mbOut hx hdd) (Ent.bg (mbBut_tail hb)) hy ?_
  intro a4 n4 c4 w hS4
  have hS5:=Ho.mbIn (d':=⟨d.r,a4,n4,c4,y⟩) hx hdd rfl hS4
  refine ⟨_,rfl,?_⟩
  refine drM_s hS5 ?_;intro w hS6
  refine hX _ _ ⟨by rw [wrU (by omega)],_,?_,?_,hS6⟩
  · rw [vals_setE hx];exact hf'
  · rw [vals_setE hx];exact sq_setE hq hk
end
end Go.Eng
/-
  inertia's rows: coefficients: the product and its trace. No condition.
-/
set_option maxRecDepth 100000
set_option maxHeartbeats 4000000
namespace Go.Eng
open Go
theorem vals_grow {M:List Rw} {i:Nat} {x:Rw} {h:Hd} {d:BgD} {V:Mt} {l:List Int} (hx:M[i]?=some x) (hv:vals M=V.set i l) (hi:i<V.length):vals (M.set i (h,x.2 ++ [d]))=V.set i (l ++ [d.z]):=by
  have e:=vals_row hx
  rw [hv,List.getElem?_set_self hi] at e
  have e:=Option.some.inj e
  rw [vals_set,hv,List.set_set]
  dsimp only
  rw [List.map_append,← e]
  rfl
section
variable {N:Nums} {P:Program} (H:AllOk N P)
include H
abbrev MB (N:Nums) (O:Hd) (M:List Rw) (L:List It):List It:=mxB N.t_bn_Int N.t_uint32 N.t_p_bn_Int N.t_L_p_bn_Int O M L
abbrev MI (N:Nums) (O:Hd) (M:List Rw) (Z:List It):Prop:=MIn N.t_bn_Int N.t_uint32 N.t_p_bn_Int N.t_L_p_bn_Int O M Z
theorem row_loop {w0 w:World} {R:List It} {n q i r57:Nat} {O OA:Hd} {low:Value} {M MA NX:List Rw} {row:List Int} {J:Unit→World→Prop} (hn:n≤1073741824) (hi:i<n)
    (hqV:Sq n (vals M)) (hqA:Sq n (vals MA)) (hcl:cl q [.slice O.1 O.2.1 O.2.2,low] N.t_inertia_rows∈R) (hV:MI N O M R) (hA:MI N OA MA R)
    (hd:coefRow n (vals M) (vals MA) i=some row) (hln:(vals NX).length=n) (h0:(vals NX).set i []=vals NX)
    (hS:Ho w0 w (MB N (some ⟨r57,0,none⟩,n,n) NX R))
    (hJ:∀ (N1:List Rw) (w1:World),vals N1=(vals NX).set i row→Ho w0 w1 (MB N (some ⟨r57,0,none⟩,n,n) N1 R)→J () w1) :
    loopM (σ:=Int×Unit) (fun s70 X71 w72=>
                      cond (decide (s70.1<((n:Nat):Int)))
                      (newM #[.bool false,.slice none 0 0] N.t_bn_Int w72 fun p73 w74=>
                        newM #[.bool false,.slice none 0 0] N.t_bn_Int w74 fun p75 w76=>
                        cutM (σ:=Unit) (fun J77=>
                          loopM (σ:=Int×Unit) (fun s80 X81 w82=>
                          cond (decide (s80.1<((n:Nat):Int)))
                          (optM (some ⟨q,0,none⟩) fun a83=>
                          ∃ (s84a:Option Addr) (s84l s84c:Nat),w82.cell? a83=some (.slice s84a s84l s84c) ∧
                          (0:Int)≤(i:Int)∧(i:Int)<(s84l:Nat) ∧
                          optM s84a fun a85=>
                          ∃ (s86a:Option Addr) (s86l s86c:Nat),w82.cell? (a85.add ((i:Int).toNat*1))=some (.slice s86a s86l s86c) ∧
                          (0:Int)≤s80.1∧s80.1<(s86l:Nat) ∧
                          optM s86a fun a87=>
                          ∃ p88:(Option Addr),w82.cell? (a87.add (s80.1.toNat*1))=some (.pointer p88) ∧
                          (0:Int)≤s80.1∧s80.1<(OA.2.1:Nat) ∧
                          optM OA.1 fun a89=>
                          ∃ (s90a:Option Addr) (s90l s90c:Nat),w82.cell? (a89.add (s80.1.toNat*1))=some (.slice s90a s90l s90c) ∧
                          (0:Int)≤s70.1∧s70.1<(s90l:Nat) ∧
                          optM s90a fun a91=>
                          ∃ p92:(Option Addr),w82.cell? (a91.add (s70.1.toNat*1))=some (.pointer p92) ∧
                          drM w82 fun w93=>
                          CallsX P N.f_bI_Mul #[.pointer (some p75),.pointer p88,.pointer p92] w93 fun v95 w94=>
                          ∃ p96:(Option Addr),v95=(.pointer p96) ∧
                          drM w94 fun w97=>
                          CallsX P N.f_bI_Add #[.pointer (some p73),.pointer (some p73),.pointer p96] w97 fun v99 w98=>
                          ∃ p100:(Option Addr),v99=(.pointer p100) ∧
                          drM w98 fun w101=>
                          X81 ((IntKind.i64.wrap (s80.1+1)),()) w101)
                          (J77 (()) w82))
                          (0,()) w76)
                        (fun s78 w79=>
                          (0:Int)≤(i:Int)∧(i:Int)<(((n:Nat):Int).toNat:Nat) ∧
                          ∃ (s102a:Option Addr) (s102l s102c:Nat),w79.cell? ((⟨r57,0,none⟩:Addr).add ((i:Int).toNat*1))=some (.slice s102a s102l s102c) ∧
                          newM #[.pointer (some p73)] N.t_p_bn_Int w79 fun p103 w104=>
                          appM N.t_p_bn_Int 1 8 #[.pointer none] s102a s102l s102c (some p103) 1 w104 fun s105a s105l s105c w106=>
                          (0:Int)≤(i:Int)∧(i:Int)<(((n:Nat):Int).toNat:Nat) ∧
                          stM ((⟨r57,0,none⟩:Addr).add ((i:Int).toNat*1)) (.slice s105a s105l s105c) w106 fun w107=>
                          X71 ((IntKind.i64.wrap (s70.1+1)),()) w107))
                      (J (()) w72))
                    (0,()) w:=by
  refine loop_n (fun m s w=>s=((m:Int),())∧∃ (N1:List Rw) (l:List Int),foldO (fun j l=>(coefDot n (vals M) (vals MA) i j).bind fun x=>some (l ++ [x])) m []=some l∧l.length=m∧vals N1=(vals NX).set i l∧Ho w0 w (MB N (some ⟨r57,0,none⟩,n,n) N1 R)) n ⟨rfl,NX,[],rfl,rfl,h0.symm,hS⟩ ?_ ?_
  rotate_left
  · rintro s w X ⟨rfl,N1,l,hf,hll,hv,hS⟩
    dsimp only
    refine cond_i (fun hc=>?_) (fun _=>?_)
    · simp at hc
    have:some l=some row:=hf.symm.trans hd
    obtain rfl:=Option.some.inj this
    exact hJ N1 w hv hS
  rintro m s w X hm ⟨rfl,N1,l,hf,hll,hv,hS⟩ hX
  dsimp only
  refine cond_i (fun _=>?_) (fun hc=>?_)
  rotate_left
  · simp at hc;omega
  obtain ⟨l',hl',hf'⟩:=foldO_at hd hm hf
  obtain ⟨v,hdot,hl'⟩:=bnd hl'
  obtain rfl:=Option.some.inj hl'
  have hN1:N1.length=n:=by rw [← vals_len,hv,List.length_set];exact hln
  have hxi:N1[i]?=some (N1[i]'(by omega)):=List.getElem?_eq_getElem _
  generalize (N1[i]'(by omega))=x at hxi
  have hxl:x.2.length=m:=by
    have e:=vals_row hxi
    rw [hv,List.getElem?_set_self (by omega)] at e
    have:=congrArg List.length (Option.some.inj e)
    simp at this
    omega
  refine newM_s hS ?_
  clear hS;intro rx w hS
  replace hS:=Ho.bgNew (E:=N.t_uint32) hS
  refine newM_s hS ?_
  clear hS;intro ry w hS
  replace hS:=Ho.bgNew (E:=N.t_uint32) hS
  refine cutM_i (fun _ w=>∃ (a':Option Addr) (n' c':Nat),Ho w0 w (bg N.t_bn_Int N.t_uint32 rx a' n' c' v::MB N (some ⟨r57,0,none⟩,n,n) N1 R)) (fun J2 hJ2=>?_) ?_
  · exact dot_loop H hn hi hm hqV hqA (mxB_tail hcl) hV.under hA.under hdot hS fun a' n' c' w1 h=>hJ2 _ _ ⟨a',n',c',h⟩
  rintro s w ⟨a',n',c',hS⟩
  rw [Int.toNat_natCast]
  refine ⟨by omega,by omega,?_⟩
  have hg:(N1.map Prod.fst)[((i:Nat):Int).toNat]?=some x.1:=by
    rw [Int.toNat_natCast,List.getElem?_map,hxi];rfl
  replace hS:=hS.mbPush
  refine ⟨_,_,_,rdL_get hS.mbOr rfl hg,?_⟩
  refine lit_s (ks:=[rx]) (enc:=ptrV) (m:=1) hS rfl rfl ?_
  clear hS;intro pr w hS
  refine grow_s (d':=⟨rx,a',n',c',v⟩) hS hxi (by omega) ?_
  clear hS;intro a2 c2 w hS
  refine ⟨by omega,by omega,?_⟩
  refine growSt_s hS hxi rfl ?_
  clear hS;intro w hS
  exact hX _ _ ⟨by rw [wrU (by omega)],_,_,hf',by simp [hll],vals_grow hxi hv (by omega),hS⟩
end
end Go.Eng
/-
  inertia's rows: what the pivot and a round do, place by place; signs tells the signs. No condition.
-/
set_option maxRecDepth 100000
set_option maxHeartbeats 4000000
namespace Go.Eng
open Go Go.Ine
theorem bigAdd_e {x y z:Int} (h:bigAdd x y=some z):z=x+y:=by
  obtain ⟨_,h⟩:=bind_ok h
  obtain ⟨_,h⟩:=bind_ok h
  exact (Option.some.inj h).symm
theorem bigSub_e {x y z:Int} (h:bigSub x y=some z):z=x-y:=by
  obtain ⟨_,h⟩:=bind_ok h
  obtain ⟨_,h⟩:=bind_ok h
  exact (Option.some.inj h).symm
theorem bigMul_e {x y z:Int} (h:bigMul x y=some z):z=x*y:=by
  obtain ⟨_,h⟩:=bind_ok h
  obtain ⟨_,h⟩:=bind_ok h
  exact (Option.some.inj h).symm
theorem bigQuo_e {x y z:Int} (h:bigQuo x y=some z):z=x.tdiv y:=by
  unfold bigQuo at h
  split at h
  · cases h
  obtain ⟨_,h⟩:=bind_ok h
  obtain ⟨_,h⟩:=bind_ok h
  exact (Option.some.inj h).symm
theorem foldO_indN {α:Type} {f:Nat→α→Option α} (Q:Nat→α→Prop):∀ {n:Nat} {a b:α},foldO f n a=some b→Q 0 a→(∀ k c d,k<n→Q k c→f k c=some d→Q (k+1) d)→Q n b
  | 0,a,b,h,h0,_=>by obtain rfl:=Option.some.inj h;exact h0
  | n+1,a,b,h,h0,hs=>by
    obtain ⟨c,h1,h2⟩:=bnd (show (foldO f n a).bind (f n)=some b from h)
    exact hs n c b (by omega) (foldO_indN Q h1 h0 fun k c d hk=>hs k c d (by omega)) h2
theorem addRowT_ent {n row col:Nat} {V V':Mt} (hq:Sq n V) (hr:row<n) (hne:row≠col) (h:addRowT n row col V=some V'):Sq n V'∧∀ i j,j<n→ent V' i j=if i=row then ent V i j+ent V col j else ent V i j:=by
  have:=foldO_indN (fun k W=>Sq n W∧∀ i j,j<n→ent W i j=if i=row∧j<k then ent V i j+ent V col j else ent V i j) h ⟨hq,fun i j _=>by rw [if_neg (by omega)]⟩ (by
    rintro k c d hk ⟨h1,h2⟩ h3
    obtain ⟨y,hy,h4⟩:=bnd h3
    obtain rfl:=Option.some.inj h4
    have hy:=bigAdd_e hy
    refine ⟨sq_setE h1 hr,fun i j hj=>?_⟩
    rw [ent_setE h1 hr hk]
    by_cases e:i=row∧j=k
    · obtain ⟨rfl,rfl⟩:=e
      rw [if_pos ⟨rfl,rfl⟩,if_pos ⟨rfl,by omega⟩,hy,h2 _ _ hj,h2 _ _ hj,if_neg (by omega),if_neg (by omega)]
    · rw [if_neg e,h2 i j hj]
      by_cases e2:i=row∧j<k
      · rw [if_pos e2,if_pos ⟨e2.1,by omega⟩]
      · rw [if_neg e2,if_neg (by omega)])
  refine ⟨this.1,fun i j hj=>?_⟩
  rw [this.2 i j hj]
  by_cases e:i=row
  · rw [if_pos ⟨e,hj⟩,if_pos e]
  · rw [if_neg (by omega),if_neg e]
theorem addColT_ent {n row col:Nat} {V V':Mt} (hq:Sq n V) (hr:row<n) (hne:row≠col) (h:addColT n row col V=some V'):Sq n V'∧∀ i j,i<n→ent V' i j=if j=row then ent V i j+ent V i col else ent V i j:=by
  have:=foldO_indN (fun k W=>Sq n W∧∀ i j,i<n→ent W i j=if j=row∧i<k then ent V i j+ent V i col else ent V i j) h ⟨hq,fun i j _=>by rw [if_neg (by omega)]⟩ (by
    rintro k c d hk ⟨h1,h2⟩ h3
    obtain ⟨y,hy,h4⟩:=bnd h3
    obtain rfl:=Option.some.inj h4
    have hy:=bigAdd_e hy
    refine ⟨sq_setE h1 hk,fun i j hi=>?_⟩
    rw [ent_setE h1 hk hr]
    by_cases e:i=k∧j=row
    · obtain ⟨rfl,rfl⟩:=e
      rw [if_pos ⟨rfl,rfl⟩,if_pos ⟨rfl,by omega⟩,hy,h2 _ _ hi,h2 _ _ hi,if_neg (by omega),if_neg (by omega)]
    · rw [if_neg e,h2 i j hi]
      by_cases e2:j=row∧i<k
      · rw [if_pos e2,if_pos ⟨e2.1,by omega⟩]
      · rw [if_neg e2,if_neg (by omega)])
  refine ⟨this.1,fun i j hi=>?_⟩
  rw [this.2 i j hi]
  by_cases e:j=row
  · rw [if_pos ⟨e,hi⟩,if_pos e]
  · rw [if_neg (by omega),if_neg e]
theorem getD_set2 {α:Type} {l:List α} {a b i:Nat} {d x y:α} (ha:a<l.length) (hb:b<l.length) (hx:x=l.getD b d) (hy:y=l.getD a d):((l.set a x).set b y).getD i d=l.getD (swp a b i) d:=by
  subst hx hy
  unfold swp
  rw [List.getD_eq_getElem?_getD]
  by_cases e1:i=b
  · subst e1
    rw [List.getElem?_set_self (by rw [List.length_set];exact hb),Option.getD_some]
    by_cases e2:i=a
    · subst e2;rw [if_pos rfl]
    · rw [if_neg e2,if_pos rfl]
  · rw [List.getElem?_set_ne (by omega)]
    by_cases e2:i=a
    · subst e2
      rw [if_pos rfl,List.getElem?_set_self ha,Option.getD_some]
    · rw [if_neg e2,if_neg e1,List.getElem?_set_ne (by omega),← List.getD_eq_getElem?_getD]
theorem swR_ent {n:Nat} {V:Mt} (hq:Sq n V) {a b:Nat} (ha:a<n) (hb:b<n) (i j:Nat):ent (swR V a b) i j=ent V (swp a b i) j:=by
  unfold ent swR
  rw [getD_set2 (by rw [hq.1];exact ha) (by rw [hq.1];exact hb) rfl rfl]
theorem swC_row {n:Nat} {V:Mt} (hq:Sq n V) {a b:Nat}:∀ {k:Nat},k≤n→∀ i,(swC a b k V).getD i []=if i<k then swL (V.getD i []) a b else V.getD i []
  | 0,_,i=>by rw [if_neg (by omega)];rfl
  | k+1,hk,i=>by
    have ih:=swC_row hq (a:=a) (b:=b) (k:=k) (by omega)
    have hl:=(sq_swC hq (a:=a) (b:=b) (k:=k) (by omega)).1
    show ((swC a b k V).set k (swL ((swC a b k V).getD k []) a b)).getD i []=_
    by_cases e:i=k
    · subst e
      rw [List.getD_eq_getElem?_getD,List.getElem?_set_self (by omega),Option.getD_some,ih,if_neg (by omega),if_pos (by omega)]
    · rw [List.getD_eq_getElem?_getD,List.getElem?_set_ne (by omega),← List.getD_eq_getElem?_getD,ih]
      by_cases e2:i<k
      · rw [if_pos e2,if_pos (by omega)]
      · rw [if_neg e2,if_neg (by omega)]
theorem swC_ent {n:Nat} {V:Mt} (hq:Sq n V) {a b:Nat} (ha:a<n) (hb:b<n) {i j:Nat} (hi:i<n):ent (swC a b n V) i j=ent V i (swp a b j):=by
  unfold ent
  rw [swC_row hq (Nat.le_refl n),if_pos hi]
  unfold swL
  rw [getD_set2 (by rw [sq_getD hq hi];exact ha) (by rw [sq_getD hq hi];exact hb) rfl rfl]
theorem offRow_none {V:Mt} {i:Nat}:∀ {k j:Nat},offRow V i j k=none→∀ p,j≤p→p<j+k→ent V i p=0
  | 0,_,_,p,h1,h2=>by omega
  | k+1,j,h,p,h1,h2=>by
    rw [offRow_succ] at h
    split at h
    · cases h
    · rename_i h0
      by_cases e:p=j
      · subst e;omega
      · exact offRow_none h p (by omega) (by omega)
theorem offRow_some {V:Mt} {i:Nat}:∀ {k j p:Nat},offRow V i j k=some p→ent V i p≠0
  | 0,_,_,h=>by cases h
  | k+1,j,p,h=>by
    rw [offRow_succ] at h
    split at h
    · rename_i h0;obtain rfl:=Option.some.inj h;exact h0
    · exact offRow_some h
theorem offAll_some {V:Mt} {at_:Nat}:∀ {k i p q:Nat},offAll V at_ i k=some (p,q)→ent V p q≠0
  | 0,_,_,_,h=>by cases h
  | k+1,i,p,q,h=>by
    rw [offAll_succ] at h
    split at h
    · rename_i j hj
      cases h
      exact offRow_some hj
    · exact offAll_some h
theorem offAll_none {V:Mt} {at_:Nat}:∀ {k i:Nat},at_≤i→offAll V at_ i k=none→∀ p q,i≤p→p<i+k→at_≤q→q<p→ent V p q=0
  | 0,_,_,_,p,q,h1,h2,_,_=>by omega
  | k+1,i,hi,h,p,q,h1,h2,h3,h4=>by
    rw [offAll_succ] at h
    split at h
    · cases h
    · rename_i hj
      by_cases e:p=i
      · subst e;exact offRow_none hj q h3 (by omega)
      · exact offAll_none (by omega) h p q (by omega) (by omega) h3 h4
theorem diagAt_none {V:Mt}:∀ {k i:Nat},diagAt V i k=none→∀ p,i≤p→p<i+k→ent V p p=0
  | 0,_,_,p,h1,h2=>by omega
  | k+1,i,h,p,h1,h2=>by
    rw [diagAt_succ] at h
    split at h
    · cases h
    · rename_i h0
      by_cases e:p=i
      · subst e;omega
      · exact diagAt_none h p (by omega) (by omega)
end Go.Eng
/-
  inertia's rows: coefficients, walked. No condition.
-/
set_option maxRecDepth 100000
set_option maxHeartbeats 4000000
namespace Go.Eng
open Go
theorem rowI_grow {I E tL:Nat} {X Y:List It} {h h':Hd} {ds:List BgD} {d:BgD} {w0 w:World} (hS:Ho w0 w (sl h'.1 h'.2.1 h'.2.2 ((ds.map BgD.r ++ [d.r]).map ptrV) tL::(X++(bg I E d.r d.a d.n d.c d.z::(ds.map (bgI I E)++Y))))):Ho w0 w (X++(rowI I E tL (h',ds ++ [d])++Y)):=by
  refine hS.perm ?_
  unfold rowI
  dsimp only
  have e1:(ds ++ [d]).map BgD.r=ds.map BgD.r ++ [d.r]:=by rw [List.map_append];rfl
  have e2:(ds ++ [d]).map (bgI I E)=ds.map (bgI I E) ++ [bgI I E d]:=by rw [List.map_append];rfl
  rw [e1,e2]
  refine List.Perm.trans ?_ List.perm_middle.symm
  refine .cons _ (List.Perm.append_left X ?_)
  show (bgI I E d::(ds.map (bgI I E)++Y)).Perm ((ds.map (bgI I E) ++ [bgI I E d])++Y)
  rw [List.append_assoc]
  exact List.perm_middle.symm
theorem coefRow_len {n:Nat} {V A:Mt} {i:Nat} {row:List Int} (h:coefRow n V A i=some row):row.length=n:=
  foldO_indN (fun m (l:List Int)=>l.length=m) h rfl (by
    rintro m c d _ h1 h2
    obtain ⟨y,_,h3⟩:=bnd h2
    obtain rfl:=Option.some.inj h3
    simp [h1])
theorem coefNext_sq {n:Nat} {V A:Mt} {s:Mt×Int} (h:coefNext n V A=some s):Sq n s.1:=by
  have:=foldO_indN (fun i (s:Mt×Int)=>s.1.length=n∧∀ p l,p<i→s.1[p]?=some l→l.length=n) h ⟨by simp,fun p l hp=>by omega⟩ (by
    rintro m c d hm ⟨h1,h2⟩ h3
    obtain ⟨row,hr,h3⟩:=bnd h3
    obtain ⟨t,_,h3⟩:=bnd h3
    obtain rfl:=Option.some.inj h3
    refine ⟨by rw [List.length_set];exact h1,fun p l hp hl=>?_⟩
    by_cases e:p=m
    · subst e
      rw [List.getElem?_set_self (by omega)] at hl
      cases hl;exact coefRow_len hr
    · rw [List.getElem?_set_ne (by omega)] at hl
      exact h2 p l (by omega) hl)
  refine ⟨this.1,fun l hl=>?_⟩
  obtain ⟨p,hp,rfl⟩:=List.mem_iff_getElem.1 hl
  exact this.2 p _ (by rw [← this.1];exact hp) (List.getElem?_eq_getElem hp)
section
variable {N:Nums} {P:Program} (H:AllOk N P)
include H
theorem wk_coefs {w0 w:World} {L:List It} {q:Nat} {O:Hd} {low:Value} {M:List Rw} {n:Nat} {res:List Int} (hq:Sq n (vals M)) (hn:n≤1073741824) (hx:coefT n (vals M)=some res)
    (hS:Ho w0 w (MQ N q O low M L)) {K:Value→World→Prop}
    (hK:∀ (h:Hd) (ds:List BgD) (w1:World),ds.map BgD.z=res→Ho w0 w1 (rowI N.t_bn_Int N.t_uint32 N.t_p_bn_Int (h,ds)++MQ N q O low M L)→K (.slice h.1 h.2.1 h.2.2) w1) :
    CallsX P N.f_p_inertia_rows_coefficients #[.pointer (some ⟨q,0,none⟩)] w K:=by
  refine H.p_inertia_rows_coefficients _ w _ ?_
  unfold S_p_inertia_rows_coefficients
  refine optM_s ⟨_,_,_,hS.mxHd,?_⟩
  have hO:=hS.mxLen
  have hMl:M.length=n:=by rw [← vals_len];exact hq.1
  rw [hO,hMl]
  refine wk_bn_NewInt H hS (u0:=1) (by decide) ?_
  clear hS;intro r0 a0 n0 c0 w hS
  refine ⟨_,rfl,?_⟩
  refine lit_s (ks:=[r0]) (enc:=ptrV) (m:=1) hS rfl rfl ?_
  clear hS;intro r6 w hS
  have hS:Ho w0 w (rowI N.t_bn_Int N.t_uint32 N.t_p_bn_Int ((some ⟨r6,0,none⟩,1,1),[⟨r0,a0,n0,c0,1⟩])++MQ N q O low M L):=hS
  refine mkB_s (I:=N.t_bn_Int) (E:=N.t_uint32) (tL:=N.t_p_bn_Int) hS (by omega) ?_
  clear hS;intro r8 w hS
  obtain ⟨s1,hfold,hx⟩:=bnd hx
  obtain rfl:=Option.some.inj hx
  refine cutM_i (fun _ w=>∃ MA:List Rw,vals MA=List.replicate n (List.replicate n 0)∧Ho w0 w (MB N (some ⟨r8,0,none⟩,n,n) MA (rowI N.t_bn_Int N.t_uint32 N.t_p_bn_Int ((some ⟨r6,0,none⟩,1,1),[⟨r0,a0,n0,c0,1⟩])++MQ N q O low M L))) (fun J hJ=>?_) ?_
  · exact noughts H hn hS fun M1 w1 hv h=>hJ _ _ ⟨M1,hv,h⟩
  clear hS
  rintro s w ⟨MA,hvA,hS⟩
  have hsq0:Sq n (List.replicate n (List.replicate n (0:Int))):=⟨by simp,fun l hl=>by rw [List.eq_of_mem_replicate hl];simp⟩
  refine cutM_i (fun s w=>∃ (h:Hd) (ds:List BgD),s=((h.1,h.2.1,h.2.2),())∧ds.map BgD.z=s1.1∧Ho w0 w (rowI N.t_bn_Int N.t_uint32 N.t_p_bn_Int (h,ds)++MQ N q O low M L)) (fun J hJ=>?_) ?_
  rotate_left
  · rintro s w ⟨h,ds,rfl,hv,hS⟩
    exact hK h ds w hv hS
  refine loop_n (fun k s w=>∃ (h OA:Hd) (ds:List BgD) (MA:List Rw),s=((h.1,h.2.1,h.2.2),(OA.1,OA.2.1,OA.2.2),(k:Int),())∧ds.length=k+1∧Sq n (vals MA)∧foldO (coefStep n (vals M)) k ([1],List.replicate n (List.replicate n 0))=some (ds.map BgD.z,vals MA) ∧
      Ho w0 w (MB N OA MA (rowI N.t_bn_Int N.t_uint32 N.t_p_bn_Int (h,ds)++MQ N q O low M L))) n
    ⟨(some ⟨r6,0,none⟩,1,1),(some ⟨r8,0,none⟩,n,n),[⟨r0,a0,n0,c0,1⟩],MA,by simp,rfl,by rw [hvA];exact hsq0,by rw [hvA];rfl,hS⟩ ?_ ?_
  rotate_left
  · rintro s w X ⟨h,OA,ds,MA,rfl,hl,hqA,hf,hS⟩
    dsimp only
    refine cond_i (fun hc=>?_) (fun _=>?_)
    · simp at hc
    have:some (ds.map BgD.z,vals MA)=some s1:=hf.symm.trans hfold
    obtain rfl:=Option.some.inj this
    refine hJ _ _ ⟨h,ds,rfl,rfl,hS.sub ?_⟩
    exact .cons _ (List.sublist_append_right _ _)
  clear hS hvA
  rintro k s w X hk ⟨h,OA,ds,MA,rfl,hl,hqA,hf,hS⟩ hX
  dsimp only
  refine cond_i (fun _=>?_) (fun hc=>?_)
  rotate_left
  · simp at hc;omega
  obtain ⟨s2,hstep,hf2⟩:=foldO_at hfold hk hf
  obtain ⟨A1,hA1,hstep⟩:=bnd hstep
  obtain ⟨⟨NV,tr⟩,hnext,hstep⟩:=bnd hstep
  obtain ⟨k1,hk1,hstep⟩:=bnd hstep
  obtain ⟨cq,hcq,hstep⟩:=bnd hstep
  obtain ⟨cn,hcn,hstep⟩:=bnd hstep
  obtain rfl:=Option.some.inj hstep
  have hdk:ds[k]?=some (ds[k]'(by omega)):=List.getElem?_eq_getElem _
  generalize (ds[k]'(by omega))=ck at hdk
  have hck:(ds.map BgD.z).getD k 0=ck.z:=map_getD _ hdk 0
  rw [hck] at hA1
  refine cutM_i (fun _ w=>∃ M1:List Rw,vals M1=A1∧Sq n (vals M1)∧Ho w0 w (MB N OA M1 (rowI N.t_bn_Int N.t_uint32 N.t_p_bn_Int (h,ds)++MQ N q O low M L))) (fun J2 hJ2=>?_) ?_
  · exact diag_loop H hn hqA (List.mem_append_left _ (List.mem_cons_self ..)) (List.mem_append_left _ (List.mem_cons_of_mem _ (List.mem_map.2 ⟨ck,List.mem_of_getElem? hdk,rfl⟩))) hdk hA1 hS fun M1 w1 hv hq1 h1=>hJ2 _ _ ⟨M1,hv,hq1,h1⟩
  clear hS
  rintro s w ⟨M1,rfl,hq1,hS⟩
  refine mkB_s (I:=N.t_bn_Int) (E:=N.t_uint32) (tL:=N.t_p_bn_Int) hS (by omega) ?_
  clear hS;intro r57 w hS
  refine newM_s hS ?_
  clear hS;intro rt w hS
  replace hS:=(Ho.bgNew (E:=N.t_uint32) hS).mbPush
  generalize hR:MB N OA M1 (rowI N.t_bn_Int N.t_uint32 N.t_p_bn_Int (h,ds)++MQ N q O low M L)=R at *
  have hcl:cl q [.slice O.1 O.2.1 O.2.2,low] N.t_inertia_rows∈R:=by rw [← hR];exact mxB_tail (List.mem_append_right _ (List.mem_cons_self ..))
  have hVin:MI N O M R:=by rw [← hR];exact (MIn.all.app).under
  have hAin:MI N OA M1 R:=by rw [← hR];exact MIn.here
  refine cutM_i (fun _ w=>∃ (NX:List Rw) (a n' c:_),vals NX=NV∧Ho w0 w (MB N (some ⟨r57,0,none⟩,n,n) NX (bg N.t_bn_Int N.t_uint32 rt a n' c tr::R))) (fun J3 hJ3=>?_) ?_
  · refine loop_n (fun i s w=>s=((i:Int),())∧∃ (NX:List Rw) (t:Int) (a:Option Addr) (n' c:Nat),foldO (fun i s=>(coefRow n (vals M) (vals M1) i).bind fun r=>(bigAdd s.2 (r.getD i 0)).bind fun t=>some (s.1.set i r,t)) i (List.replicate n [],0)=some (vals NX,t)∧(vals NX).length=n∧(∀ p,i≤p→p<n→(vals NX)[p]?=some []) ∧
        Ho w0 w (MB N (some ⟨r57,0,none⟩,n,n) NX (bg N.t_bn_Int N.t_uint32 rt a n' c t::R))) n
      ⟨rfl,List.replicate n ((none,0,0),[]),0,none,0,0,by
        have:vals (List.replicate n (((none:Option Addr),0,0),([]:List BgD)))=List.replicate n []:=by unfold vals;rw [List.map_replicate];rfl
        rw [this];rfl,by rw [vals_len];simp,fun p _ hp=>by unfold vals;rw [List.map_replicate,List.getElem?_replicate,if_pos hp];rfl,hS⟩ ?_ ?_
    rotate_left
    · rintro s w X2 ⟨rfl,NX,t,a,n',c,hf3,hln,hz,hS⟩
      dsimp only
      refine cond_i (fun hc=>?_) (fun _=>?_)
      · simp at hc
      have:some (vals NX,t)=some (NV,tr):=hf3.symm.trans hnext
      cases this
      exact hJ3 _ _ ⟨NX,a,n',c,rfl,hS⟩
    clear hS
    rintro i s w X2 hi ⟨rfl,NX,t,a,n',c,hf3,hln,hz,hS⟩ hX2
    dsimp only
    refine cond_i (fun _=>?_) (fun hc=>?_)
    rotate_left
    · simp at hc;omega
    obtain ⟨s3,hrow0,hf4⟩:=foldO_at hnext hi hf3
    obtain ⟨row,hrow,hs3⟩:=bnd hrow0
    obtain ⟨t2,ht2,hs3⟩:=bnd hs3
    obtain rfl:=Option.some.inj hs3
    dsimp only at ht2 hf4
    have h0:(vals NX).set i []=vals NX:=by
      refine List.ext_getElem? fun p=>?_
      rw [List.getElem?_set]
      split
      · rename_i e
        subst e
        rw [if_pos (by omega),hz i (Nat.le_refl _) hi]
      · rfl
    refine cutM_i (fun _ w=>∃ N1:List Rw,vals N1=(vals NX).set i row∧Ho w0 w (MB N (some ⟨r57,0,none⟩,n,n) N1 (bg N.t_bn_Int N.t_uint32 rt a n' c t::R))) (fun J4 hJ4=>?_) ?_
    · exact row_loop H hn hi hq hq1 (List.mem_cons_of_mem _ hcl) hVin.cons hAin.cons hrow hln h0 hS fun N1 w1 hv h1=>hJ4 _ _ ⟨N1,hv,h1⟩
    clear hS
    rintro s w ⟨N1,hv,hS⟩
    have hrl:row.length=n:=coefRow_len hrow
    have hxi0:=congrArg (fun V:Mt=>V[i]?) hv
    have hN1:N1.length=n:=by rw [← vals_len,hv,List.length_set];exact hln
    have hxi:N1[i]?=some (N1[i]'(by omega)):=List.getElem?_eq_getElem _
    generalize (N1[i]'(by omega))=x at hxi
    have hxz:x.2.map BgD.z=row:=by
      have e:=vals_row hxi
      rw [hv,List.getElem?_set_self (by omega)] at e
      exact (Option.some.inj e).symm
    have hxl:x.2.length=n:=by rw [← hrl,← hxz];simp
    have hdi:x.2[i]?=some (x.2[i]'(by omega)):=List.getElem?_eq_getElem _
    generalize (x.2[i]'(by omega))=d at hdi
    have hdz:row.getD i 0=d.z:=by rw [← hxz];exact map_getD _ hdi 0
    rw [Int.toNat_natCast]
    refine ⟨by omega,by omega,?_⟩
    have hg:(N1.map Prod.fst)[((i:Nat):Int).toNat]?=some x.1:=by
      rw [Int.toNat_natCast,List.getElem?_map,hxi];rfl
    refine ⟨_,_,_,rdL_get hS.mbOr rfl hg,?_⟩
    refine rd_ptM hS MIn.here hxi hdi rfl ?_
    intro b1 _
    rw [hdz] at ht2
    refine big_Add_zzy H hS.mbPop ((MIn.here).ent hxi hdi) ht2 ?_
    clear hS;intro a2 n2 c2 w hS
    refine ⟨_,rfl,?_⟩
    refine hX2 _ _ ⟨by rw [wrU (by omega)],N1,t2,a2,n2,c2,by rw [hv];exact hf4,by rw [hv,List.length_set];exact hln,fun p hp1 hp2=>by rw [hv,List.getElem?_set_ne (by omega)];exact hz p (by omega) hp2,hS.mbPush⟩
  clear hS
  rintro s w ⟨NX,a,n',c,rfl,hS⟩
  rw [wrU (by omega)]
  refine wk_bn_NewInt H hS (u0:=k1) (by unfold T_bn_NewInt;rw [hk1];rfl) ?_
  clear hS;intro r9 a9 n9 c9 w hS
  refine ⟨_,rfl,?_⟩
  refine big_Quo_zzy H hS.mbFlip (Ent.bg (mxB_tail mp0)) hcq ?_
  clear hS;intro a2 n2 c2 w hS
  refine ⟨_,rfl,?_⟩
  refine big_Neg_zz H hS hcn ?_
  clear hS;intro a3 n3 c3 w hS
  refine ⟨_,rfl,?_⟩
  refine lit_s (ks:=[rt]) (enc:=ptrV) (m:=1) hS rfl rfl ?_
  clear hS;intro pr w hS
  -- what was ahead is let go; the list of coefficients comes to the front
  have hlit:rdA ([rt].map ptrV) (some ⟨pr,0,none⟩) 1 1 w:=slA.rd (hS.hold _ (List.mem_cons_self ..))
  have hS2:Ho w0 w (sl h.1 h.2.1 h.2.2 ((ds.map BgD.r).map ptrV) N.t_p_bn_Int::(MB N (some ⟨r57,0,none⟩,n,n) NX []++(bg N.t_bn_Int N.t_uint32 rt a3 n3 c3 cn::(ds.map (bgI N.t_bn_Int N.t_uint32)++MQ N q O low M L)))):=by
    have h1:=hS.drop
    rw [← hR] at h1
    have h2:Ho w0 w (bg N.t_bn_Int N.t_uint32 rt a3 n3 c3 cn::(MB N (some ⟨r57,0,none⟩,n,n) NX []++(rowI N.t_bn_Int N.t_uint32 N.t_p_bn_Int (h,ds)++MQ N q O low M L))):=by
      refine h1.sub (.cons_cons _ ?_)
      unfold MB mxB
      rw [List.append_nil]
      refine .cons_cons _ (List.Sublist.append (List.Sublist.refl _) ?_)
      exact .cons _ (.cons _ (List.sublist_append_right _ _))
    refine h2.perm ?_
    unfold rowI
    refine (List.Perm.cons _ List.perm_middle).trans ((List.Perm.swap _ _ _).trans (.cons _ ?_))
    exact List.perm_middle.symm
  clear hS
  refine app_s (ws:=ds.map BgD.r) (ks:=[rt]) hS2 (by simp;omega) hlit (fun _=>rfl) rfl ?_
  clear hS2 hlit;intro a' c' w hS
  have hS:=rowI_grow (h:=h) (h':=(a',h.2.1+1,c')) (d:=⟨rt,a3,n3,c3,cn⟩) hS
  refine hX _ _ ⟨(a',h.2.1+1,c'),(some ⟨r57,0,none⟩,n,n),ds ++ [⟨rt,a3,n3,c3,cn⟩],NX,by rw [Int.toNat_natCast],by simp [hl],coefNext_sq hnext,?_,?_⟩
  · rw [List.map_append];exact hf2
  · have e:∀ Z:List It,MB N (some ⟨r57,0,none⟩,n,n) NX []++Z=MB N (some ⟨r57,0,none⟩,n,n) NX Z:=fun Z=>by
      unfold MB mxB;rw [List.append_nil];rfl
    rw [e] at hS
    exact hS
end
end Go.Eng
/-
  inertia: scaled in plain Lean. No condition.
-/
set_option maxRecDepth 100000
set_option maxHeartbeats 4000000
namespace Go.Eng
open Go
def lowT:List Dy→Int→Int
  | [],e=>e
  | d::D,e=>lowT D (cond (decide (((d.2.1.length:Nat):Int)>0)) (if d.2.2<e then d.2.2 else e) e)
def scEnt (n:Nat) (l:List Dy) (x:Dy) (low:Int) (i j:Nat):Option Int:=
  (T_inertia_whole (l.getD (i*n+j) (false,[],0)).1 (l.getD (i*n+j) (false,[],0)).2.1 (l.getD (i*n+j) (false,[],0)).2.2 low).bind fun y=>
    cond ((i:Int)==(j:Int)) ((T_inertia_whole x.1 x.2.1 x.2.2 low).bind fun z=>bigSub y z) (some y)
def scStep (s:Int×Int) (v:Int):Option (Int×Int):=
  cond (sgn v != 0) ((bigTrailingZeroBits v).bind fun t=>(bigBitLen v).bind fun b=>some ((if IntKind.i64.wrap t<s.1 then IntKind.i64.wrap t else s.1),(if b>s.2 then b else s.2))) (some s)
def scRow (n:Nat) (l:List Dy) (x:Dy) (low:Int) (i:Nat) (s:Int×Int):Option (List Int×(Int×Int)):=
  foldO (fun j r=>(scEnt n l x low i j).bind fun v=>(scStep r.2 v).bind fun s'=>some (r.1 ++ [v],s')) n ([],s)
def scAll (n:Nat) (l:List Dy) (x:Dy) (low:Int):Option (Mt×(Int×Int)):=
  foldO (fun i r=>(scRow n l x low i r.2).bind fun o=>some (r.1.set i o.1,o.2)) n (List.replicate n [],(1073741824,0))
def shiftT (n:Nat) (least:Int):Mt→Option Mt:=
  foldO (fun i V=>foldO (fun j V=>(bigRshF (ent V i j) (IntKind.u64.wrap least)).bind fun y=>some (setE V i j y)) n V) n
def scaledT (n:Nat) (l:List Dy) (x:Dy):Option (Mt×Int×Bool):=
  (scAll n l x (lowT (l ++ [x]) 65536)).bind fun o=>cond (o.2.2==0) (some (o.1,lowT (l ++ [x]) 65536,true))
    ((shiftT n o.2.1 o.1).bind fun V=>some (V,IntKind.i64.wrap (lowT (l ++ [x]) 65536+o.2.1),decide (IntKind.i64.wrap (IntKind.i64.wrap (o.2.2-o.2.1)*(n:Int))≤8192)))
theorem lowT_snoc (D:List Dy) (d:Dy):∀ e,lowT (D ++ [d]) e=cond (decide (((d.2.1.length:Nat):Int)>0)) (if d.2.2<lowT D e then d.2.2 else lowT D e) (lowT D e):=by
  induction D with
  | nil=>intro e;rfl
  | cons x D ih=>intro e;exact ih _
theorem lowT_take (D:List Dy) {k:Nat} {d:Dy} (h:D[k]?=some d) (e:Int):lowT (D.take (k+1)) e=cond (decide (((d.2.1.length:Nat):Int)>0)) (if d.2.2<lowT (D.take k) e then d.2.2 else lowT (D.take k) e) (lowT (D.take k) e):=by
  rw [List.take_add_one,h]
  exact lowT_snoc _ _ e
end Go.Eng
/-
  inertia: scaled: the least exponent. No condition.
-/
set_option maxRecDepth 100000
set_option maxHeartbeats 4000000
namespace Go.Eng
open Go
section
variable {N:Nums} {P:Program} (H:AllOk N P)
include H
theorem low_loop {w0 w:World} {Z:List It} {r10 m c:Nat} {a:Option Addr} {S:Value} {e0:Int} {D:List Dy} {hh:List Hd} {J:Unit→World→Prop} (hm:D.length≤1073741824)
    (hD:Ent Z (rdA (dyC D hh) a (m*3) (c*3))) (g:AllD Z D hh) (hS:Ho w0 w (cl r10 [S,.int .i64 e0] N.t_inertia_rows::Z))
    (hJ:∀ w1:World,Ho w0 w1 (cl r10 [S,.int .i64 (lowT D e0)] N.t_inertia_rows::Z)→J () w1) :
    loopM (σ:=Int×Unit) (fun s46 X47 w48=>
        cond (decide (s46.1<((m:Nat):Int)))
        (cutM (σ:=Unit) (fun J49=>
            (0:Int)≤s46.1∧s46.1<(m:Nat) ∧
            optM a fun a52=>
            ∃ b53:Bool,w48.cell? (a52.add (s46.1.toNat*3))=some (.bool b53) ∧
            ∃ (s54a:Option Addr) (s54l s54c:Nat),w48.cell? ((a52.add (s46.1.toNat*3)).add 1)=some (.slice s54a s54l s54c) ∧
            ∃ n55:Int,w48.cell? ((a52.add (s46.1.toNat*3)).add 2)=some (.int .i64 n55) ∧
            newM #[.bool false,.slice none 0 0,.int .i64 0] N.t_Dyad w48 fun p56 w57=>
            stM p56 (.bool b53) w57 fun w58=>
            stM (p56.add 1) (.slice s54a s54l s54c) w58 fun w59=>
            stM (p56.add 2) (.int .i64 n55) w59 fun w60=>
            ∃ (s61a:Option Addr) (s61l s61c:Nat),w60.cell? (p56.add 1)=some (.slice s61a s61l s61c) ∧
            cutM (σ:=Unit) (fun J62=>
              cond (decide (((s61l:Nat):Int)>0))
              (∃ n65:Int,w60.cell? ((⟨r10,0,none⟩:Addr).add 1)=some (.int .i64 n65) ∧
                ∃ n66:Int,w60.cell? (p56.add 2)=some (.int .i64 n66) ∧
                stM ((⟨r10,0,none⟩:Addr).add 1) (.int .i64 (if n66<n65 then n66 else n65)) w60 fun w67=>
                J62 (()) w67)
              (J62 (()) w60))
            (fun s63 w64=>
              J49 (()) w64))
          (fun s50 w51=>
            X47 ((IntKind.i64.wrap (s46.1+1)),()) w51))
        (J (()) w48))
      (0,()) w:=by
  have hmD:m=D.length:=by
    have:=(hD.now (fun _ h=>List.mem_cons_of_mem _ h) hS).len
    rw [dyC_len g.len] at this;omega
  subst hmD
  refine loop_n (fun k s w=>s=((k:Int),())∧Ho w0 w (cl r10 [S,.int .i64 (lowT (D.take k) e0)] N.t_inertia_rows::Z)) D.length ⟨rfl,hS⟩ ?_ ?_
  rotate_left
  · rintro s w X ⟨rfl,hS⟩
    dsimp only
    refine cond_i (fun hc=>?_) (fun _=>?_)
    · simp at hc
    rw [List.take_length] at hS
    exact hJ w hS
  rintro k s w X hk ⟨rfl,hS⟩ hX
  dsimp only
  refine cond_i (fun _=>?_) (fun hc=>?_)
  rotate_left
  · simp at hc;omega
  have hdk:D[k]?=some D[k]:=List.getElem?_eq_getElem hk
  generalize D[k]=d at hdk
  obtain ⟨gk,hgk,hek⟩:=g.get hdk
  have tk:(((k:Nat):Int)).toNat=k:=Int.toNat_natCast _
  refine cutM_i (fun _ w=>Ho w0 w (cl r10 [S,.int .i64 (lowT (D.take (k+1)) e0)] N.t_inertia_rows::Z)) (fun J2 hJ2=>?_) ?_
  rotate_left
  · rintro s w hS
    exact hX _ _ ⟨by rw [wrU (by omega)],hS⟩
  have hr:=hD.now (fun _ h=>List.mem_cons_of_mem _ h) hS
  refine idxD_s g.len hr (by omega) (by rw [tk];exact hk) ?_
  intro b hb
  refine ⟨_,rdD0 hr hb (by rw [tk];exact hdk) (by rw [tk];exact hgk),_,_,_,rdD1 hr hb (by rw [tk];exact hdk) (by rw [tk];exact hgk),_,rdD2 hr hb (by rw [tk];exact hdk) (by rw [tk];exact hgk),?_⟩
  have hgl:gk.2.1=d.2.1.length:=by
    have:=(hek.now (fun _ h=>List.mem_cons_of_mem _ h) hS).len
    simpa using this
  refine newM_s hS ?_;clear hS;intro r56 w hS
  refine stc_s hS rfl rfl ?_;clear hS;intro w hS
  refine stc_s hS rfl rfl ?_;clear hS;intro w hS
  refine stc_s hS rfl rfl ?_;clear hS;intro w hS
  refine ⟨_,_,_,hS.cel mp0 (i:=1) rfl,?_⟩
  refine cutM_i (fun _ w=>Ho w0 w (cl r10 [S,.int .i64 (lowT (D.take (k+1)) e0)] N.t_inertia_rows::Z)) (fun J3 hJ3=>?_) (fun s w h=>hJ2 _ _ h)
  rw [lowT_take D hdk] at hJ3
  rw [hgl]
  refine cond_i (fun hc=>?_) (fun hc=>?_)
  · rw [hc,cT] at hJ3
    refine ⟨_,hS.cel mp1 (i:=1) rfl,_,hS.cel mp0 (i:=2) rfl,?_⟩
    refine stc_s hS.drop rfl rfl ?_;clear hS;intro w hS
    exact hJ3 _ _ hS
  · rw [hc,cF] at hJ3
    exact hJ3 _ _ hS.drop
end
end Go.Eng
/-
  inertia: scaled: the shift. No condition.
-/
set_option maxRecDepth 100000
set_option maxHeartbeats 4000000
namespace Go.Eng
open Go
section
variable {N:Nums} {P:Program} (H:AllOk N P)
include H
theorem shift_loop {w0 w:World} {R:List It} {n:Nat} {O:Hd} {M:List Rw} {least:Int} {V':Mt} {J:Unit→World→Prop} (hn:n≤1073741824) (hq:Sq n (vals M)) (hd:shiftT n least (vals M)=some V')
    (hS:Ho w0 w (MB N O M R))
    (hJ:∀ (M1:List Rw) (w1:World),vals M1=V'→Sq n (vals M1)→Ho w0 w1 (MB N O M1 R)→J () w1) :
    loopM (σ:=Int×Unit) (fun s143 X144 w145=>
              cond (decide (s143.1<((O.2.1:Nat):Int)))
              ((0:Int)≤s143.1∧s143.1<(O.2.1:Nat) ∧
                optM O.1 fun a146=>
                ∃ (s147a:Option Addr) (s147l s147c:Nat),w145.cell? (a146.add (s143.1.toNat*1))=some (.slice s147a s147l s147c) ∧
                cutM (σ:=Unit) (fun J148=>
                  loopM (σ:=Int×Unit) (fun s151 X152 w153=>
                    cond (decide (s151.1<((s147l:Nat):Int)))
                    ((0:Int)≤s151.1∧s151.1<(s147l:Nat) ∧
                      optM s147a fun a154=>
                      ∃ p155:(Option Addr),w153.cell? (a154.add (s151.1.toNat*1))=some (.pointer p155) ∧
                      CallsX P N.f_bI_Rsh #[.pointer p155,.pointer p155,.int .u64 (IntKind.u64.wrap least)] w153 fun v157 w156=>
                      ∃ p158:(Option Addr),v157=(.pointer p158) ∧
                      X152 ((IntKind.i64.wrap (s151.1+1)),()) w156)
                    (J148 (()) w153))
                  (0,()) w145)
                (fun s149 w150=>
                  X144 ((IntKind.i64.wrap (s143.1+1)),()) w150))
              (J (()) w145))
            (0,()) w:=by
  have hOl:O.2.1=n:=by rw [hS.mbLen,← vals_len];exact hq.1
  rw [hOl]
  refine loop_n (fun k s w=>s=((k:Int),())∧∃ M1:List Rw,foldO (fun i V=>foldO (fun j V=>(bigRshF (ent V i j) (IntKind.u64.wrap least)).bind fun y=>some (setE V i j y)) n V) k (vals M)=some (vals M1)∧Sq n (vals M1)∧Ho w0 w (MB N O M1 R)) n ⟨rfl,M,rfl,hq,hS⟩ ?_ ?_
  rotate_left
  · rintro s w X ⟨rfl,M1,hf,hq1,hS⟩
    dsimp only
    refine cond_i (fun hc=>?_) (fun _=>?_)
    · simp at hc
    have:some (vals M1)=some V':=hf.symm.trans hd
    exact hJ M1 w (Option.some.inj this) hq1 hS
  clear hS
  rintro k s w X hk ⟨rfl,M1,hf,hq1,hS⟩ hX
  dsimp only
  refine cond_i (fun _=>?_) (fun hc=>?_)
  rotate_left
  · simp at hc;omega
  obtain ⟨V2,hrow,hf2⟩:=foldO_at hd hk hf
  obtain ⟨x,hx,hxl⟩:=sq_row hq1 hk
  have hrw:=rd_rowM (K:=fun a s l c=>cutM (σ:=Unit) (fun J148=>
                  loopM (σ:=Int×Unit) (fun s151 X152 w153=>
                    cond (decide (s151.1<((l:Nat):Int)))
                    ((0:Int)≤s151.1∧s151.1<(l:Nat) ∧
                      optM s fun a154=>
                      ∃ p155:(Option Addr),w153.cell? (a154.add (s151.1.toNat*1))=some (.pointer p155) ∧
                      CallsX P N.f_bI_Rsh #[.pointer p155,.pointer p155,.int .u64 (IntKind.u64.wrap least)] w153 fun v157 w156=>
                      ∃ p158:(Option Addr),v157=(.pointer p158) ∧
                      X152 ((IntKind.i64.wrap (s151.1+1)),()) w156)
                    (J148 (()) w153))
                  (0,()) w)
                (fun s149 w150=>
                  X ((IntKind.i64.wrap ((k:Int)+1)),()) w150)) hS MIn.here hx rfl (fun b _=>?_)
  · rw [hOl] at hrw;exact hrw
  have hxn:x.1.2.1=n:=by
    have:=(hS.mbRr hx).len
    simp at this;omega
  rw [hxn]
  refine cutM_i (fun _ w=>∃ M2:List Rw,vals M2=V2∧Sq n (vals M2)∧Ho w0 w (MB N O M2 R)) (fun J2 hJ2=>?_) ?_
  rotate_left
  · rintro s w ⟨M2,rfl,hq2,hS⟩
    exact hX _ _ ⟨by rw [wrU (by omega)],M2,hf2,hq2,hS⟩
  refine loop_n (fun m s w=>s=((m:Int),())∧∃ (M2:List Rw) (ds:List BgD),M2[k]?=some (x.1,ds)∧foldO (fun j V=>(bigRshF (ent V k j) (IntKind.u64.wrap least)).bind fun y=>some (setE V k j y)) m (vals M1)=some (vals M2)∧Sq n (vals M2)∧Ho w0 w (MB N O M2 R)) n ⟨rfl,M1,x.2,hx,rfl,hq1,hS⟩ ?_ ?_
  rotate_left
  · rintro s w X2 ⟨rfl,M2,ds,hM2,hf3,hq2,hS⟩
    dsimp only
    refine cond_i (fun hc=>?_) (fun _=>?_)
    · simp at hc
    have:some (vals M2)=some V2:=hf3.symm.trans hrow
    exact hJ2 _ _ ⟨M2,Option.some.inj this,hq2,hS⟩
  clear hS
  rintro m s w X2 hm ⟨rfl,M2,ds,hM2,hf3,hq2,hS⟩ hX2
  dsimp only
  refine cond_i (fun _=>?_) (fun hc=>?_)
  rotate_left
  · simp at hc;omega
  obtain ⟨V4,hV4,hf4⟩:=foldO_at hrow hm hf3
  obtain ⟨y,hy,hV4⟩:=bnd hV4
  obtain rfl:=Option.some.inj hV4
  obtain ⟨x2,d,hx2,hdd,hz,_⟩:=sq_ent hq2 (i:=k) (j:=m) hk hm
  rw [hM2] at hx2;cases hx2
  rw [← hz] at hy
  have hp:=rd_ptM (K:=fun a p=>CallsX P N.f_bI_Rsh #[.pointer p,.pointer p,.int .u64 (IntKind.u64.wrap least)] w fun v157 w156=>
                      ∃ p158:(Option Addr),v157=(.pointer p158) ∧
                      X2 ((IntKind.i64.wrap ((m:Int)+1)),()) w156) hS MIn.here hM2 hdd rfl (fun b _=>?_)
  · dsimp only at hp;rw [hxn] at hp;exact hp
  refine big_RshF_zz H (hS.mbOut hM2 hdd) hy ?_
  intro a4 n4 c4 w hS4
  have hS5:=Ho.mbIn (d':=⟨d.r,a4,n4,c4,y⟩) hM2 hdd rfl hS4
  refine ⟨_,rfl,?_⟩
  refine hX2 _ _ ⟨by rw [wrU (by omega)],_,ds.set m ⟨d.r,a4,n4,c4,y⟩,List.getElem?_set_self (get_lt hM2),?_,?_,hS5⟩
  · rw [vals_setE hM2];exact hf4
  · rw [vals_setE hM2];exact sq_setE hq2 hk
end
end Go.Eng
/-
  inertia: scaled: a row. No condition.
-/
set_option maxRecDepth 100000
set_option maxHeartbeats 4000000
namespace Go.Eng
open Go
section
variable {N:Nums} {P:Program} (H:AllOk N P)
include H
theorem sc_row {w0 w:World} {R:List It} {n i r1 r3 r10:Nat} {O:Hd} {M:List Rw} {low:Int} {l:List Dy} {hh:List Hd} {qa:Option Addr} {ql qc:Nat} {x:Dy} {hx:Hd} {s0:Int×Int} {row:List Int} {s1:Int×Int} {J:Int×Int×Unit→World→Prop} (hn:n≤1000) (hi:i<n)
    (hc1:cl r1 [.int .i64 n,.int .i64 n,.slice qa ql qc] N.t_Dyads∈R) (hc3:cl r3 [.bool x.1,.slice hx.1 hx.2.1 hx.2.2,.int .i64 x.2.2] N.t_Dyad∈R) (hc10:cl r10 [.slice O.1 O.2.1 O.2.2,.int .i64 low] N.t_inertia_rows∈R)
    (hD:Ent R (rdA (dyC l hh) qa (ql*3) (qc*3))) (g:AllD R l hh) (hxe:Ent R (rdA (x.2.1.map (Value.int .u64)) hx.1 hx.2.1 hx.2.2)) (hl:l.length=n*n)
    (hOl:O.2.1=n) (hln:(vals M).length=n) (h0:(vals M).set i []=vals M) (hd:scRow n l x low i s0=some (row,s1))
    (hS:Ho w0 w (MB N O M R))
    (hJ:∀ (M1:List Rw) (w1:World),vals M1=(vals M).set i row→Ho w0 w1 (MB N O M1 R)→J (s1.1,s1.2,()) w1) :
    loopM (σ:=Int×Int×Int×Unit) (fun s79 X80 w81=>
                cond (decide (s79.2.2.1<(n:Int)))
                (∃ (s82a:Option Addr) (s82l s82c:Nat),w81.cell? ((⟨r1,0,none⟩:Addr).add 2)=some (.slice s82a s82l s82c) ∧
                  ∃ n83:Int,w81.cell? ((⟨r1,0,none⟩:Addr).add 1)=some (.int .i64 n83) ∧
                  (0:Int)≤(IntKind.i64.wrap ((IntKind.i64.wrap ((i:Int)*n83))+s79.2.2.1))∧(IntKind.i64.wrap ((IntKind.i64.wrap ((i:Int)*n83))+s79.2.2.1))<(s82l:Nat) ∧
                  optM s82a fun a84=>
                  ∃ b85:Bool,w81.cell? (a84.add ((IntKind.i64.wrap ((IntKind.i64.wrap ((i:Int)*n83))+s79.2.2.1)).toNat*3))=some (.bool b85) ∧
                  ∃ (s86a:Option Addr) (s86l s86c:Nat),w81.cell? ((a84.add ((IntKind.i64.wrap ((IntKind.i64.wrap ((i:Int)*n83))+s79.2.2.1)).toNat*3)).add 1)=some (.slice s86a s86l s86c) ∧
                  ∃ n87:Int,w81.cell? ((a84.add ((IntKind.i64.wrap ((IntKind.i64.wrap ((i:Int)*n83))+s79.2.2.1)).toNat*3)).add 2)=some (.int .i64 n87) ∧
                  ∃ n88:Int,w81.cell? ((⟨r10,0,none⟩:Addr).add 1)=some (.int .i64 n88) ∧
                  drM w81 fun w89=>
                  CallsX P N.f_inertia_whole #[.agg #[.bool b85,.slice s86a s86l s86c,.int .i64 n87],.int .i64 n88] w89 fun v91 w90=>
                  ∃ p92:(Option Addr),v91=(.pointer p92) ∧
                  drM w90 fun w93=>
                  cutM (σ:=Unit) (fun J94=>
                    cond ((i:Int)==s79.2.2.1)
                    (∃ b97:Bool,w93.cell? ⟨r3,0,none⟩=some (.bool b97) ∧
                      ∃ (s98a:Option Addr) (s98l s98c:Nat),w93.cell? ((⟨r3,0,none⟩:Addr).add 1)=some (.slice s98a s98l s98c) ∧
                      ∃ n99:Int,w93.cell? ((⟨r3,0,none⟩:Addr).add 2)=some (.int .i64 n99) ∧
                      ∃ n100:Int,w93.cell? ((⟨r10,0,none⟩:Addr).add 1)=some (.int .i64 n100) ∧
                      CallsX P N.f_inertia_whole #[.agg #[.bool b97,.slice s98a s98l s98c,.int .i64 n99],.int .i64 n100] w93 fun v102 w101=>
                      ∃ p103:(Option Addr),v102=(.pointer p103) ∧
                      CallsX P N.f_bI_Sub #[.pointer p92,.pointer p92,.pointer p103] w101 fun v105 w104=>
                      ∃ p106:(Option Addr),v105=(.pointer p106) ∧
                      J94 (()) w104)
                    (J94 (()) w93))
                  (fun s95 w96=>
                    CallsX P N.f_bI_Sign #[.pointer p92] w96 fun v108 w107=>
                    ∃ n109:Int,v108=(.int .i64 n109) ∧
                    cutM (σ:=Int×Int×Unit) (fun J110=>
                      cond (n109 != 0)
                      (CallsX P N.f_bI_TrailingZeroBits #[.pointer p92] w107 fun v114 w113=>
                        ∃ n115:Int,v114=(.int .u64 n115) ∧
                        CallsX P N.f_bI_BitLen #[.pointer p92] w113 fun v117 w116=>
                        ∃ n118:Int,v117=(.int .i64 n118) ∧
                        J110 ((if (IntKind.i64.wrap n115)<s79.1 then (IntKind.i64.wrap n115) else s79.1),(if n118>s79.2.1 then n118 else s79.2.1),()) w116)
                      (J110 (s79.1,s79.2.1,()) w107))
                    (fun s111 w112=>
                      ∃ (s119a:Option Addr) (s119l s119c:Nat),w112.cell? ⟨r10,0,none⟩=some (.slice s119a s119l s119c) ∧
                      ∃ (s120a:Option Addr) (s120l s120c:Nat),w112.cell? ⟨r10,0,none⟩=some (.slice s120a s120l s120c) ∧
                      (0:Int)≤(i:Int)∧(i:Int)<(s120l:Nat) ∧
                      optM s120a fun a121=>
                      ∃ (s122a:Option Addr) (s122l s122c:Nat),w112.cell? (a121.add ((i:Int).toNat*1))=some (.slice s122a s122l s122c) ∧
                      drM w112 fun w123=>
                      newM #[.pointer p92] N.t_p_bn_Int w123 fun p124 w125=>
                      w125.cell? (a121.add ((i:Int).toNat*1))=some (.slice s122a s122l s122c) ∧
                      w125.cell? ⟨r10,0,none⟩=some (.slice s120a s120l s120c) ∧
                      w125.cell? ⟨r10,0,none⟩=some (.slice s119a s119l s119c) ∧
                      drM w125 fun w126=>
                      appM N.t_p_bn_Int 1 8 #[.pointer none] s122a s122l s122c (some p124) 1 w126 fun s127a s127l s127c w128=>
                      w128.cell? ⟨r10,0,none⟩=some (.slice s119a s119l s119c) ∧
                      (0:Int)≤(i:Int)∧(i:Int)<(s119l:Nat) ∧
                      optM s119a fun a129=>
                      drM w128 fun w130=>
                      stM (a129.add ((i:Int).toNat*1)) (.slice s127a s127l s127c) w130 fun w131=>
                      drM w131 fun w132=>
                      X80 (s111.1,s111.2.1,(IntKind.i64.wrap (s79.2.2.1+1)),()) w132)))
                (J (s79.1,s79.2.1,()) w81))
              (s0.1,s0.2,0,()) w:=by
  refine loop_n (fun m s w=>∃ (N1:List Rw) (lr:List Int) (st:Int×Int),s=(st.1,st.2,(m:Int),())∧foldO (fun j r=>(scEnt n l x low i j).bind fun v=>(scStep r.2 v).bind fun s'=>some (r.1 ++ [v],s')) m ([],s0)=some (lr,st)∧lr.length=m∧vals N1=(vals M).set i lr∧Ho w0 w (MB N O N1 R)) n ⟨M,[],s0,rfl,rfl,rfl,h0.symm,hS⟩ ?_ ?_
  rotate_left
  · rintro s w X ⟨N1,lr,st,rfl,hf,hll,hv,hS⟩
    dsimp only
    refine cond_i (fun hc=>?_) (fun _=>?_)
    · simp at hc
    have:some (lr,st)=some (row,s1):=hf.symm.trans hd
    cases this
    exact hJ N1 w hv hS
  clear hS
  rintro m s w X hm ⟨N1,lr,st,rfl,hf,hll,hv,hS⟩ hX
  dsimp only
  refine cond_i (fun _=>?_) (fun hc=>?_)
  rotate_left
  · simp at hc;omega
  obtain ⟨o2,ho2,hf2⟩:=foldO_at hd hm hf
  obtain ⟨v,hv1,ho2⟩:=bnd ho2
  obtain ⟨st2,hst,ho2⟩:=bnd ho2
  obtain rfl:=Option.some.inj ho2
  obtain ⟨y,hy,hv1⟩:=bnd hv1
  have hidx:i*n+m<l.length:=by
    rw [hl]
    have:(i+1)*n≤n*n:=Nat.mul_le_mul_right n hi
    rw [Nat.add_mul] at this;omega
  have hnn:n*n≤1000*1000:=Nat.mul_le_mul hn hn
  have hdk:l[i*n+m]?=some (l.getD (i*n+m) (false,[],0)):=by
    rw [List.getD_eq_getElem?_getD,List.getElem?_eq_getElem hidx];rfl
  generalize l.getD (i*n+m) (false,[],0)=dd at *
  obtain ⟨gk,hgk,hek⟩:=g.get hdk
  have hR:∀ e,e∈R→e∈MB N O N1 R:=fun e he=>mxB_tail he
  refine ⟨_,_,_,hS.cel (hR _ hc1) (i:=2) rfl,_,hS.cel (hR _ hc1) (i:=1) rfl,?_⟩
  have ew:IntKind.i64.wrap (IntKind.i64.wrap ((i:Int)*(n:Int))+(m:Int))=((i*n+m:Nat):Int):=by
    rw [wrMul (by omega),wrAdd (by omega)]
  rw [ew]
  have hr:=hD.now hR hS
  refine idxD_s g.len hr (by omega) (by rw [Int.toNat_natCast];exact hidx) ?_
  intro b hb
  refine ⟨_,rdD0 hr hb (by rw [Int.toNat_natCast];exact hdk) (by rw [Int.toNat_natCast];exact hgk),_,_,_,rdD1 hr hb (by rw [Int.toNat_natCast];exact hdk) (by rw [Int.toNat_natCast];exact hgk),_,rdD2 hr hb (by rw [Int.toNat_natCast];exact hdk) (by rw [Int.toNat_natCast];exact hgk),?_⟩
  refine ⟨_,hS.cel (hR _ hc10) (i:=1) rfl,?_⟩
  refine drM_s hS ?_;clear hr hS;intro w hS
  refine wk_inertia_whole H hS (hek.mono hR) hy ?_
  clear hS;intro rx a1 n1 c1 w hS
  refine ⟨_,rfl,?_⟩
  refine drM_s hS ?_;clear hS;intro w hS
  replace hS:=hS.mbPush
  refine cutM_i (fun _ w=>∃ (a:Option Addr) (n' c:Nat),Ho w0 w (MB N O N1 (bg N.t_bn_Int N.t_uint32 rx a n' c v::R))) (fun J2 hJ2=>?_) ?_
  · refine cond_i (fun hc=>?_) (fun hc=>?_)
    · rw [hc,cT] at hv1
      obtain ⟨z,hz,hv1⟩:=bnd hv1
      have hR2:∀ e,e∈R→e∈MB N O N1 (bg N.t_bn_Int N.t_uint32 rx a1 n1 c1 y::R):=fun e he=>mxB_tail (List.mem_cons_of_mem _ he)
      refine ⟨_,hS.cel (hR2 _ hc3) rfl,_,_,_,hS.cel (hR2 _ hc3) (i:=1) rfl,_,hS.cel (hR2 _ hc3) (i:=2) rfl,_,hS.cel (hR2 _ hc10) (i:=1) rfl,?_⟩
      refine wk_inertia_whole H hS (hxe.mono hR2) hz ?_
      clear hS;intro rz a2 n2 c2 w hS
      refine ⟨_,rfl,?_⟩
      refine big_Sub_zzy H hS.mbFlip (Ent.bg (mxB_tail mp0)) hv1 ?_
      clear hS;intro a3 n3 c3 w hS
      refine ⟨_,rfl,?_⟩
      exact hJ2 _ _ ⟨a3,n3,c3,hS.mbFlip.drop⟩
    · rw [hc,cF] at hv1
      obtain rfl:=Option.some.inj hv1
      exact hJ2 _ _ ⟨a1,n1,c1,hS⟩
  clear hS
  rintro s w ⟨a2,n2,c2,hS⟩
  refine big_Sign_x H hS (Ent.bg (mxB_tail mp0)) rfl ?_
  clear hS;intro w hS
  refine ⟨_,rfl,?_⟩
  refine cutM_i (fun s w=>s=(st2.1,st2.2,())∧Ho w0 w (MB N O N1 (bg N.t_bn_Int N.t_uint32 rx a2 n2 c2 v::R))) (fun J3 hJ3=>?_) ?_
  · have hst:scStep st v=some st2:=hst
    unfold scStep at hst
    refine cond_i (fun hc=>?_) (fun hc=>?_)
    · rw [show (sgn v != 0)=true from hc,cT] at hst
      obtain ⟨t,ht,hst⟩:=bnd hst
      obtain ⟨bl,hbl,hst⟩:=bnd hst
      obtain rfl:=Option.some.inj hst
      refine big_TrailingZeroBits_x H hS (Ent.bg (mxB_tail mp0)) ht ?_
      clear hS;intro w hS
      refine ⟨_,rfl,?_⟩
      refine big_BitLen_x H hS (Ent.bg (mxB_tail mp0)) hbl ?_
      clear hS;intro w hS
      refine ⟨_,rfl,?_⟩
      exact hJ3 _ _ ⟨rfl,hS⟩
    · rw [show (sgn v != 0)=false from hc,cF] at hst
      obtain rfl:=Option.some.inj hst
      exact hJ3 _ _ ⟨rfl,hS⟩
  clear hS
  rintro s w ⟨rfl,hS⟩
  have hR3:∀ e,e∈R→e∈MB N O N1 (bg N.t_bn_Int N.t_uint32 rx a2 n2 c2 v::R):=fun e he=>mxB_tail (List.mem_cons_of_mem _ he)
  refine ⟨_,_,_,hS.cel (hR3 _ hc10) rfl,_,_,_,hS.cel (hR3 _ hc10) rfl,?_⟩
  have hN1:N1.length=n:=by rw [← vals_len,hv,List.length_set];exact hln
  have hxi:N1[i]?=some (N1[i]'(by omega)):=List.getElem?_eq_getElem _
  generalize (N1[i]'(by omega))=xr at hxi
  have hxl:xr.2.length=m:=by
    have e:=vals_row hxi
    rw [hv,List.getElem?_set_self (by omega)] at e
    have:=congrArg List.length (Option.some.inj e)
    simp at this
    omega
  refine rd_rowM hS MIn.here hxi rfl ?_
  intro b2 hb2
  have hgi:(N1.map Prod.fst)[((i:Nat):Int).toNat]?=some xr.1:=by
    rw [Int.toNat_natCast,List.getElem?_map,hxi];rfl
  refine drM_s hS ?_;clear hS;intro w hS
  refine lit_s (ks:=[rx]) (enc:=ptrV) (m:=1) hS rfl rfl ?_
  clear hS;intro pr w hS
  have hR4:∀ e,e∈R→e∈sl (some ⟨pr,0,none⟩) 1 1 ([rx].map ptrV) N.t_p_bn_Int::MB N O N1 (bg N.t_bn_Int N.t_uint32 rx a2 n2 c2 v::R):=fun e he=>List.mem_cons_of_mem _ (hR3 e he)
  refine ⟨rdL_get hS.drop.mbOr hb2 hgi,hS.cel (hR4 _ hc10) rfl,hS.cel (hR4 _ hc10) rfl,?_⟩
  refine drM_s hS ?_;clear hS;intro w hS
  refine grow_s (d':=⟨rx,a2,n2,c2,v⟩) hS hxi (by omega) ?_
  clear hS;intro a5 c5 w hS
  refine ⟨hS.cel (List.mem_cons_of_mem _ (List.mem_cons_of_mem _ (List.mem_append_right _ (List.mem_cons_of_mem _ hc10)))) rfl,by omega,by omega,?_⟩
  rw [hb2]
  refine optM_s ?_
  refine drM_s hS ?_;clear hS;intro w hS
  refine growSt_s hS hxi hb2 ?_
  clear hS;intro w hS
  refine drM_s hS ?_;clear hS;intro w hS
  exact hX _ _ ⟨_,_,st2,by rw [wrU (by omega)],hf2,by simp [hll],vals_grow hxi hv (by omega),hS⟩
end
end Go.Eng
/-
  inertia: scaled, walked. No condition.
-/
set_option maxRecDepth 100000
set_option maxHeartbeats 4000000
namespace Go.Eng
open Go
theorem scRow_len {n:Nat} {l:List Dy} {x:Dy} {low:Int} {i:Nat} {s:Int×Int} {r:List Int×(Int×Int)} (h:scRow n l x low i s=some r):r.1.length=n:=
  foldO_indN (fun m (r:List Int×(Int×Int))=>r.1.length=m) h rfl (by
    rintro m c d _ h1 h2
    obtain ⟨v,_,h3⟩:=bnd h2
    obtain ⟨s',_,h4⟩:=bnd h3
    obtain rfl:=Option.some.inj h4
    simp [h1])
section
variable {N:Nums} {P:Program} (H:AllOk N P)
include H
theorem wk_scaled {w0 w:World} {L:List It} {n:Nat} {l:List Dy} {hh:List Hd} {qa:Option Addr} {ql qc:Nat} {x:Dy} {hx:Hd} {V:Mt} {low:Int} {ok:Bool} (hn:n≤1000) (hl:l.length=n*n)
    (hD:Ent L (rdA (dyC l hh) qa (ql*3) (qc*3))) (g:AllD L l hh) (hxe:Ent L (rdA (x.2.1.map (Value.int .u64)) hx.1 hx.2.1 hx.2.2)) (ht:scaledT n l x=some (V,low,ok)) (hS:Ho w0 w L) {K:Value→World→Prop}
    (hK:∀ (O:Hd) (M1:List Rw) (w1:World),vals M1=V→Sq n (vals M1)→Ho w0 w1 (MB N O M1 L)→K (.tuple #[.agg #[.slice O.1 O.2.1 O.2.2,.int .i64 low],.bool ok]) w1) :
    CallsX P N.f_inertia_scaled #[.agg #[.int .i64 n,.int .i64 n,.slice qa ql qc],.agg #[.bool x.1,.slice hx.1 hx.2.1 hx.2.2,.int .i64 x.2.2]] w K:=by
  refine H.inertia_scaled _ _ _ _ _ _ _ _ _ _ w _ ?_
  unfold S_inertia_scaled
  have hnn:n*n≤1000*1000:=Nat.mul_le_mul hn hn
  refine newM_s hS ?_;clear hS;intro r1 w hS
  refine newM_s hS ?_;clear hS;intro r3 w hS
  refine newM_s hS ?_;clear hS;intro r5 w hS
  refine ⟨_,hS.cel mp2 (i:=0) rfl,?_⟩
  refine mkB_s (I:=N.t_bn_Int) (E:=N.t_uint32) (tL:=N.t_p_bn_Int) hS (by omega) ?_
  clear hS;intro r8 w hS
  refine newM_s hS ?_;clear hS;intro r10 w hS
  refine stc_s hS rfl rfl ?_;clear hS;intro w hS
  refine stc_s hS rfl rfl ?_;clear hS;intro w hS
  rw [Int.toNat_natCast] at hS
  generalize hT:(cl r5 [.slice none 0 0,.int .i64 0] N.t_inertia_rows::cl r3 [.bool x.1,.slice hx.1 hx.2.1 hx.2.2,.int .i64 x.2.2] N.t_Dyad::cl r1 [.int .i64 (n:Int),.int .i64 (n:Int),.slice qa ql qc] N.t_Dyads::L)=T at *
  have hS:Ho w0 w (cl r10 [.slice (some ⟨r8,0,none⟩) n n,.int .i64 65536] N.t_inertia_rows::MB N (some ⟨r8,0,none⟩,n,n) (List.replicate n ((none,0,0),[])) T):=hS
  have hT1:∀ e,e∈L→e∈T:=fun e he=>by rw [← hT];exact List.mem_cons_of_mem _ (List.mem_cons_of_mem _ (List.mem_cons_of_mem _ he))
  have hc1:cl r1 [.int .i64 (n:Int),.int .i64 (n:Int),.slice qa ql qc] N.t_Dyads∈T:=by rw [← hT];exact mp2
  have hc3:cl r3 [.bool x.1,.slice hx.1 hx.2.1 hx.2.2,.int .i64 x.2.2] N.t_Dyad∈T:=by rw [← hT];exact mp1
  have hqlen:ql=l.length:=by
    have:=(hD.now (fun e he=>List.mem_cons_of_mem _ (mxB_tail (hT1 e he))) hS).len
    rw [dyC_len g.len] at this;omega
  refine cutM_i (fun s w=>∃ (a':Option Addr) (c':Nat),s=((a',l.length+1,c'),((l.length+1:Nat):Int),0,())∧Ho w0 w (sl a' ((l.length+1)*3) (c'*3) (dyC (l ++ [x]) (hh ++ [hx])) N.t_Dyad::cl r10 [.slice (some ⟨r8,0,none⟩) n n,.int .i64 65536] N.t_inertia_rows::MB N (some ⟨r8,0,none⟩,n,n) (List.replicate n ((none,0,0),[])) T)) (fun J hJ=>?_) ?_
  · have hm:∀ e,e∈T→e∈cl r10 [.slice (some ⟨r8,0,none⟩) n n,.int .i64 65536] N.t_inertia_rows::MB N (some ⟨r8,0,none⟩,n,n) (List.replicate n ((none,0,0),[])) T:=fun e he=>List.mem_cons_of_mem _ (mxB_tail he)
    refine ⟨_,_,_,hS.cel (hm _ hc1) (i:=2) rfl,_,hS.cel (hm _ hc3) rfl,_,_,_,hS.cel (hm _ hc3) (i:=1) rfl,_,hS.cel (hm _ hc3) (i:=2) rfl,?_,?_⟩
    · refine drM_s hS ?_;clear hS;intro w hS
      refine wk_clone H hS (hD.mono fun e he=>hm _ (hT1 e he)) (g.mono fun e he=>hm _ (hT1 e he)) (by omega) ?_
      clear hS;intro a1 n1 c1 w hS
      refine ⟨_,_,_,rfl,hS.cel (List.mem_cons_of_mem _ (hm _ hc3)) rfl,hS.cel (List.mem_cons_of_mem _ (hm _ hc3)) (i:=1) rfl,hS.cel (List.mem_cons_of_mem _ (hm _ hc3)) (i:=2) rfl,?_⟩
      have hn1:n1=l.length:=by
        have:=(slA.rd (hS.hold _ (List.mem_cons_self ..))).len
        rw [dyC_len g.len] at this;omega
      subst hn1
      refine drM_s hS ?_;clear hS;intro w hS
      refine litD_s (X:=[x]) (H:=[hx]) (m:=1) hS rfl rfl rfl ?_
      clear hS;intro rp w hS
      refine drM_s hS ?_;clear hS;intro w hS
      refine appD_s (X:=l) (H:=hh) (Y:=[x]) (G:=[hx]) hS.flip2 (by simp;omega) g.len rfl (slA.rd (hS.hold _ (List.mem_cons_self ..))) rfl rfl ?_
      clear hS;intro a' c' w hS
      refine drM_s hS ?_;clear hS;intro w hS
      exact hJ _ _ ⟨a',c',rfl,hS.perm (.cons _ (.refl _)) |>.flip2.drop⟩
    · refine drM_s hS ?_;clear hS;intro w hS
      refine litD_s (X:=[x]) (H:=[hx]) (m:=1) hS rfl rfl rfl ?_
      clear hS;intro rp w hS
      refine ⟨hS.cel (List.mem_cons_of_mem _ (hm _ hc1)) (i:=2) rfl,?_⟩
      refine drM_s hS ?_;clear hS;intro w hS
      refine wk_clone H hS (hD.mono fun e he=>List.mem_cons_of_mem _ (hm _ (hT1 e he))) (g.mono fun e he=>List.mem_cons_of_mem _ (hm _ (hT1 e he))) (by omega) ?_
      clear hS;intro a1 n1 c1 w hS
      refine ⟨_,_,_,rfl,?_⟩
      have hn1:n1=l.length:=by
        have:=(slA.rd (hS.hold _ (List.mem_cons_self ..))).len
        rw [dyC_len g.len] at this;omega
      subst hn1
      refine drM_s hS ?_;clear hS;intro w hS
      refine appD_s (X:=l) (H:=hh) (Y:=[x]) (G:=[hx]) hS (by simp;omega) g.len rfl (slA.rd (hS.hold _ (List.mem_cons_of_mem _ (List.mem_cons_self ..)))) rfl rfl ?_
      clear hS;intro a' c' w hS
      refine drM_s hS ?_;clear hS;intro w hS
      exact hJ _ _ ⟨a',c',rfl,hS.flip2.drop⟩
  clear hS
  rintro s w ⟨a',c',rfl,hS⟩
  dsimp only
  refine cutM_i (fun _ w=>Ho w0 w (MB N (some ⟨r8,0,none⟩,n,n) (List.replicate n ((none,0,0),[])) (cl r10 [.slice (some ⟨r8,0,none⟩) n n,.int .i64 (lowT (l ++ [x]) 65536)] N.t_inertia_rows::T))) (fun J hJ=>?_) ?_
  · exact low_loop H (D:=l ++ [x]) (hh:=hh ++ [hx]) (by simp;omega) (Ent.sl mp0) ((g.append (AllD.one hxe)).mono fun e he=>List.mem_cons_of_mem _ (mxB_tail (hT1 e he))) hS.flip2 fun w1 h=>hJ _ _ h.flip2.drop.mbPush
  clear hS
  intro s w hS
  generalize hlw:lowT (l ++ [x]) 65536=lw at *
  obtain ⟨⟨VA,least,most⟩,hall,ht⟩:=bnd (show (scAll n l x (lowT (l ++ [x]) 65536)).bind _=_ from ht)
  dsimp only at ht
  rw [hlw] at hall ht
  generalize hR:cl r10 [.slice (some ⟨r8,0,none⟩) n n,.int .i64 lw] N.t_inertia_rows::T=R at *
  have hTR:∀ e,e∈T→e∈R:=fun e he=>by rw [← hR];exact List.mem_cons_of_mem _ he
  have hc10:cl r10 [.slice (some ⟨r8,0,none⟩) n n,.int .i64 lw] N.t_inertia_rows∈R:=by rw [← hR];exact List.mem_cons_self ..
  refine ⟨_,hS.cel (mxB_tail (hTR _ hc1)) (i:=0) rfl,?_⟩
  refine cutM_i (fun s w=>∃ M1:List Rw,s=(least,most,())∧vals M1=VA∧Sq n (vals M1)∧Ho w0 w (MB N (some ⟨r8,0,none⟩,n,n) M1 R)) (fun J hJ=>?_) ?_
  · refine loop_n (fun i s w=>∃ (NX:List Rw) (st:Int×Int),s=(st.1,st.2,(i:Int),())∧foldO (fun i r=>(scRow n l x lw i r.2).bind fun o=>some (r.1.set i o.1,o.2)) i (List.replicate n [],(1073741824,0))=some (vals NX,st)∧(vals NX).length=n∧(∀ p l',p<i→(vals NX)[p]?=some l'→l'.length=n)∧(∀ p,i≤p→p<n→(vals NX)[p]?=some [])∧Ho w0 w (MB N (some ⟨r8,0,none⟩,n,n) NX R)) n
      ⟨List.replicate n ((none,0,0),[]),(1073741824,0),rfl,by
        have:vals (List.replicate n (((none:Option Addr),0,0),([]:List BgD)))=List.replicate n []:=by unfold vals;rw [List.map_replicate];rfl
        rw [this];rfl,by rw [vals_len];simp,fun p l' hp=>by omega,fun p _ hp=>by unfold vals;rw [List.map_replicate,List.getElem?_replicate,if_pos hp];rfl,hS⟩ ?_ ?_
    rotate_left
    · rintro s w X2 ⟨NX,st,rfl,hf,hln,hz,_,hS⟩
      dsimp only
      refine cond_i (fun hc=>?_) (fun _=>?_)
      · simp at hc
      have:some (vals NX,st)=some (VA,(least,most)):=hf.symm.trans hall
      cases this
      refine hJ _ _ ⟨NX,rfl,rfl,⟨hln,fun l' hl'=>?_⟩,hS⟩
      obtain ⟨p,hp,rfl⟩:=List.mem_iff_getElem.1 hl'
      exact hz p _ (by rw [← hln];exact hp) (List.getElem?_eq_getElem hp)
    clear hS
    rintro i s w X2 hi ⟨NX,st,rfl,hf,hln,hz,hz2,hS⟩ hX2
    dsimp only
    refine cond_i (fun _=>?_) (fun hc=>?_)
    rotate_left
    · simp at hc;omega
    obtain ⟨s3,hrow0,hf4⟩:=foldO_at hall hi hf
    obtain ⟨row,hrow,hs3⟩:=bnd hrow0
    obtain rfl:=Option.some.inj hs3
    obtain ⟨row,s1⟩:=row
    have h0:(vals NX).set i []=vals NX:=by
      refine List.ext_getElem? fun p=>?_
      rw [List.getElem?_set]
      split
      · rename_i e
        subst e
        rw [if_pos (by omega),hz2 i (Nat.le_refl _) hi]
      · rfl
    refine ⟨_,hS.cel (mxB_tail (hTR _ hc1)) (i:=1) rfl,?_⟩
    refine cutM_i (fun s w=>s=(s1.1,s1.2,())∧∃ N1:List Rw,vals N1=(vals NX).set i row∧Ho w0 w (MB N (some ⟨r8,0,none⟩,n,n) N1 R)) (fun J4 hJ4=>?_) ?_
    · exact sc_row H hn hi (hTR _ hc1) (hTR _ hc3) hc10 (hD.mono fun e he=>hTR _ (hT1 e he)) (g.mono fun e he=>hTR _ (hT1 e he)) (hxe.mono fun e he=>hTR _ (hT1 e he)) hl rfl hln h0 hrow hS fun N1 w1 hv h1=>hJ4 _ _ ⟨rfl,N1,hv,h1⟩
    clear hS
    rintro s w ⟨rfl,N1,hv,hS⟩
    have hrl:row.length=n:=scRow_len hrow
    refine hX2 _ _ ⟨N1,s1,by rw [wrU (by omega)],by rw [hv];exact hf4,by rw [hv,List.length_set];exact hln,fun p l' hp hl'=>?_,fun p hp1 hp2=>by rw [hv,List.getElem?_set_ne (by omega)];exact hz2 p (by omega) hp2,hS⟩
    rw [hv] at hl'
    by_cases e:p=i
    · subst e
      rw [List.getElem?_set_self (by omega)] at hl'
      cases hl';exact hrl
    · rw [List.getElem?_set_ne (by omega)] at hl'
      exact hz p l' (by omega) hl'
  clear hS
  have fin:∀ {M1:List Rw} {w:World} {a b c d:It},Ho w0 w (a::MB N (some ⟨r8,0,none⟩,n,n) M1 (b::c::d::L))→Ho w0 w (MB N (some ⟨r8,0,none⟩,n,n) M1 L):=fun h=>by
    refine h.sub (.cons _ ?_)
    unfold MB mxB
    exact .cons_cons _ (List.Sublist.append (List.Sublist.refl _) (.cons _ (.cons _ (.cons _ (List.Sublist.refl _)))))
  rintro s w ⟨M1,rfl,rfl,hsq,hS⟩
  dsimp only
  refine cond_i (fun hc=>?_) (fun hc=>?_)
  · rw [show (most==0)=true from hc,cT] at ht
    cases Option.some.inj ht
    refine ⟨_,_,_,hS.cel (mxB_tail hc10) rfl,_,hS.cel (mxB_tail hc10) (i:=1) rfl,?_⟩
    rw [← hR,← hT] at hS
    replace hS:=hS.mbPop.mbFlip
    refine stc_s hS rfl rfl ?_;clear hS;intro w hS
    refine stc_s hS rfl rfl ?_;clear hS;intro w hS
    refine ⟨_,_,_,hS.cel mp0 rfl,_,hS.cel mp0 (i:=1) rfl,?_⟩
    exact hK (some ⟨r8,0,none⟩,n,n) M1 w rfl hsq (fin hS)
  · rw [show (most==0)=false from hc,cF] at ht
    obtain ⟨V2,hsh,ht⟩:=bnd ht
    cases Option.some.inj ht
    refine ⟨_,_,_,hS.cel (mxB_tail hc10) rfl,?_⟩
    refine cutM_i (fun _ w=>∃ M2:List Rw,vals M2=V∧Sq n (vals M2)∧Ho w0 w (MB N (some ⟨r8,0,none⟩,n,n) M2 R)) (fun J2 hJ2=>?_) ?_
    · exact shift_loop H (O:=(some ⟨r8,0,none⟩,n,n)) (by omega) hsq hsh hS fun M2 w1 hv h2 h1=>hJ2 _ _ ⟨M2,hv,h2,h1⟩
    clear hS
    rintro s w ⟨M2,rfl,hsq2,hS⟩
    refine ⟨_,hS.cel (mxB_tail hc10) (i:=1) rfl,?_⟩
    rw [← hR,← hT] at hS
    replace hS:=hS.mbPop
    refine stc_s hS rfl rfl ?_;clear hS;intro w hS
    refine ⟨_,_,_,hS.cel mp0 rfl,_,hS.cel mp0 (i:=1) rfl,_,hS.cel (List.mem_cons_of_mem _ (mxB_tail mp2)) rfl,?_⟩
    refine drM_s hS ?_;clear hS;intro w hS
    replace hS:=hS.mbFlip
    refine stc_s hS rfl rfl ?_;clear hS;intro w hS
    refine stc_s hS rfl rfl ?_;clear hS;intro w hS
    refine ⟨hS.cel (List.mem_cons_of_mem _ (mxB_tail mp2)) rfl,?_⟩
    refine drM_s hS ?_;clear hS;intro w hS
    refine ⟨_,_,_,hS.cel mp0 rfl,_,hS.cel mp0 (i:=1) rfl,?_⟩
    exact hK (some ⟨r8,0,none⟩,n,n) M2 w rfl hsq2 (fin hS)
end
end Go.Eng
/-
  inertia: Signs, Below, Poly walked. No condition.
-/
set_option maxRecDepth 100000
set_option maxHeartbeats 4000000
namespace Go.Eng
open Go
theorem nT {α:Type} {a b:α}:cond (!true) a b=b:=rfl
theorem nF {α:Type} {a b:α}:cond (!false) a b=a:=rfl
theorem Ho.mbDrop {I E tL tO:Nat} {O:Hd} {M:List Rw} {L:List It} {w0 w:World} (h:Ho w0 w (mxB I E tL tO O M L)):Ho w0 w L:=h.sub (.cons _ (List.sublist_append_right _ _))
def sqG (r c:Int) (l:List Dy):Bool:=decide (0≤r∧r≤48∧c=r∧((l.length:Nat):Int)=r*r)
theorem sqG_t {r c:Int} {l:List Dy} (h:sqG r c l=true):∃ n:Nat,r=n∧c=n∧n≤1000∧l.length=n*n∧r.toNat=n:=by
  have h:=of_decide_eq_true h
  obtain ⟨n,rfl⟩:∃ n:Nat,r=n:=⟨r.toNat,by omega⟩
  refine ⟨n,rfl,h.2.2.1,by omega,?_,Int.toNat_natCast n⟩
  have:=h.2.2.2
  exact_mod_cast this
def signsDo (r c:Int) (l:List Dy):Option (Int×Int×Int×Int):=
  (T_inertia_Symmetric r c l).bind fun b=>cond (!b) (some (0,0,0,4))
    (cond (sqG r c l) ((scaledT r.toNat l (false,[],0)).bind fun o=>cond (!o.2.2) (some (0,0,0,3)) ((signsT r.toNat o.1).bind fun q=>some (q.1,q.2.1,q.2.2,0))) none)
def belowDo (r c:Int) (l:List Dy) (b0:Bool) (b1:List Int) (b2:Int):Option (Int×Int):=
  (T_inertia_Symmetric r c l).bind fun b=>cond (!b) (some (0,4))
    ((T_dyad_Right b0 b1 b2).bind fun b=>cond (!b) (some (0,2))
      (cond (sqG r c l) ((scaledT r.toNat l (b0,b1,b2)).bind fun o=>cond (!o.2.2) (some (0,3)) ((signsT r.toNat o.1).bind fun q=>some (q.1,0))) none))
def polyGo (low:Int):List Int→Nat→List Dy→Option (List Dy×Int)
  | [],_,acc=>some (acc.reverse,0)
  | c::cs,k,acc=>(T_inertia_told c (IntKind.i64.wrap ((k:Int)*low))).bind fun o=>cond (o.2.2.2 != 0) (some ([],3)) (polyGo low cs (k+1) (acc ++ [(o.1,o.2.1,o.2.2.1)]))
def polyDo (r c:Int) (l:List Dy):Option (List Dy×Int):=
  (T_inertia_Symmetric r c l).bind fun b=>cond (!b) (some ([],4))
    (cond (sqG r c l) ((scaledT r.toNat l (false,[],0)).bind fun o=>cond (!o.2.2) (some ([],3)) ((coefT r.toNat o.1).bind fun cs=>cond (decide (cs.length≤1000000)) (polyGo o.2.1 cs 0 []) none)) none)
section
variable {N:Nums} {P:Program} (H:AllOk N P)
include H
theorem wkH_Signs {w0 w:World} {L:List It} {r c:Int} {qa:Option Addr} {ql qc:Nat} {hh:List Hd} {l:List Dy} {u0 u1 u2 u3:Int} (hS:Ho w0 w L) (hq:Ent L (rdA (dyC l hh) qa (ql*3) (qc*3))) (g:AllD L l hh) (hx:signsDo r c l=some (u0,u1,u2,u3))
    {K:Value→World→Prop} (hK:∀ w1:World,Ho w0 w1 L→K (.tuple #[.agg #[.int .i64 u0,.int .i64 u1,.int .i64 u2],.int .i64 u3]) w1):CallsX P N.f_inertia_Signs #[.agg #[.int .i64 r,.int .i64 c,.slice qa ql qc]] w K:=by
  refine H.inertia_Signs _ _ _ _ _ w _ ?_
  unfold S_inertia_Signs
  replace hx:=bnd (show (T_inertia_Symmetric r c l).bind _=_ from hx)
  obtain ⟨b,hb,hx⟩:=hx
  refine newM_s hS ?_;clear hS;intro r1 w hS
  refine newM_s hS ?_;clear hS;intro r3 w hS
  refine ⟨_,hS.cel mp1 (i:=0) rfl,_,hS.cel mp1 (i:=1) rfl,_,_,_,hS.cel mp1 (i:=2) rfl,?_⟩
  refine wk_inertia_Symmetric H hS (hq.mono tl2) (g.mono tl2) hb ?_
  clear hS;intro w hS
  refine ⟨_,rfl,?_⟩
  cases b with
  | false=>
    rw [nF]
    cases Option.some.inj (show some _=some _ from hx)
    refine stc_s hS rfl rfl ?_;clear hS;intro w hS
    refine stc_s hS rfl rfl ?_;clear hS;intro w hS
    refine stc_s hS rfl rfl ?_;clear hS;intro w hS
    refine ⟨_,hS.cel mp0 (i:=0) rfl,_,hS.cel mp0 (i:=1) rfl,_,hS.cel mp0 (i:=2) rfl,?_⟩
    exact hK _ hS.drop.drop
  | true=>
    rw [nT]
    replace hx:cond (sqG r c l) _ none=some (u0,u1,u2,u3):=hx
    cases hsq:sqG r c l with
    | false=>rw [hsq] at hx;cases hx
    | true=>
    rw [hsq,cT] at hx
    obtain ⟨n,rfl,rfl,hn,hll,htn⟩:=sqG_t hsq
    rw [htn] at hx
    replace hx:=bnd hx
    obtain ⟨⟨V,low,ok⟩,hsc,hx⟩:=hx
    dsimp only at hx
    refine ⟨_,hS.cel mp1 (i:=0) rfl,_,hS.cel mp1 (i:=1) rfl,_,_,_,hS.cel mp1 (i:=2) rfl,?_⟩
    refine wk_scaled H (x:=(false,[],0)) (hx:=(none,0,0)) hn hll (hq.mono tl2) (g.mono tl2) (Ent.nilD _) hsc hS ?_
    clear hS
    rintro O M1 w rfl hq1 hS
    refine ⟨_,_,_,_,_,rfl,?_⟩
    refine newM_s hS ?_;clear hS;intro rr w hS
    refine stc_s hS rfl rfl ?_;clear hS;intro w hS
    refine stc_s hS rfl rfl ?_;clear hS;intro w hS
    cases ok with
    | false=>
      rw [nF]
      cases Option.some.inj (show some _=some _ from hx)
      replace hS:=hS.drop.mbDrop
      refine stc_s hS rfl rfl ?_;clear hS;intro w hS
      refine stc_s hS rfl rfl ?_;clear hS;intro w hS
      refine stc_s hS rfl rfl ?_;clear hS;intro w hS
      refine ⟨_,hS.cel mp0 (i:=0) rfl,_,hS.cel mp0 (i:=1) rfl,_,hS.cel mp0 (i:=2) rfl,?_⟩
      exact hK _ hS.drop.drop
    | true=>
      rw [nT]
      replace hx:=bnd (show (signsT n (vals M1)).bind _=_ from hx)
      obtain ⟨q,hq2,hx⟩:=hx
      cases Option.some.inj hx
      refine wk_signs H (O:=O) (low := .int .i64 low) (M:=M1) (n:=n) hq1 (by omega) hq2 hS ?_
      clear hS;intro w hS
      refine ⟨_,_,_,rfl,?_⟩
      refine stc_s hS rfl rfl ?_;clear hS;intro w hS
      refine stc_s hS rfl rfl ?_;clear hS;intro w hS
      refine stc_s hS rfl rfl ?_;clear hS;intro w hS
      refine ⟨_,hS.cel mp0 (i:=0) rfl,_,hS.cel mp0 (i:=1) rfl,_,hS.cel mp0 (i:=2) rfl,?_⟩
      exact hK _ hS.drop.drop
theorem wkH_Below {w0 w:World} {L:List It} {r c:Int} {qa:Option Addr} {ql qc:Nat} {hh:List Hd} {l:List Dy} {b0:Bool} {b1:List Int} {b2:Int} {ba:Option Addr} {bl bc:Nat} {u0 u1:Int} (hS:Ho w0 w L) (hq:Ent L (rdA (dyC l hh) qa (ql*3) (qc*3))) (g:AllD L l hh)
    (hb1:Ent L (rdA (List.map (Value.int .u64) b1) ba bl bc)) (hx:belowDo r c l b0 b1 b2=some (u0,u1))
    {K:Value→World→Prop} (hK:∀ w1:World,Ho w0 w1 L→K (.tuple #[.int .i64 u0,.int .i64 u1]) w1):CallsX P N.f_inertia_Below #[.agg #[.int .i64 r,.int .i64 c,.slice qa ql qc],.agg #[.bool b0,.slice ba bl bc,.int .i64 b2]] w K:=by
  refine H.inertia_Below _ _ _ _ _ _ _ _ _ _ w _ ?_
  unfold S_inertia_Below
  replace hx:=bnd (show (T_inertia_Symmetric r c l).bind _=_ from hx)
  obtain ⟨b,hb,hx⟩:=hx
  refine newM_s hS ?_;clear hS;intro r1 w hS
  refine newM_s hS ?_;clear hS;intro r3 w hS
  refine ⟨_,hS.cel mp1 (i:=0) rfl,_,hS.cel mp1 (i:=1) rfl,_,_,_,hS.cel mp1 (i:=2) rfl,?_⟩
  refine wk_inertia_Symmetric H hS (hq.mono tl2) (g.mono tl2) hb ?_
  clear hS;intro w hS
  refine ⟨_,rfl,?_⟩
  cases b with
  | false=>
    rw [nF]
    cases Option.some.inj (show some _=some _ from hx)
    exact hK _ hS.drop.drop
  | true=>
    rw [nT]
    replace hx:=bnd (show (T_dyad_Right b0 b1 b2).bind _=_ from hx)
    obtain ⟨b',hb',hx⟩:=hx
    refine ⟨_,hS.cel mp0 (i:=0) rfl,_,_,_,hS.cel mp0 (i:=1) rfl,_,hS.cel mp0 (i:=2) rfl,?_⟩
    refine wk_dyad_Right H hS (hb1.mono tl2) hb' ?_
    clear hS;intro w hS
    refine ⟨_,rfl,?_⟩
    cases b' with
    | false=>
      rw [nF]
      cases Option.some.inj (show some _=some _ from hx)
      exact hK _ hS.drop.drop
    | true=>
    rw [nT]
    replace hx:cond (sqG r c l) _ none=some (u0,u1):=hx
    cases hsq:sqG r c l with
    | false=>rw [hsq] at hx;cases hx
    | true=>
    rw [hsq,cT] at hx
    obtain ⟨n,rfl,rfl,hn,hll,htn⟩:=sqG_t hsq
    rw [htn] at hx
    replace hx:=bnd hx
    obtain ⟨⟨V,low,ok⟩,hsc,hx⟩:=hx
    dsimp only at hx
    refine ⟨_,hS.cel mp1 (i:=0) rfl,_,hS.cel mp1 (i:=1) rfl,_,_,_,hS.cel mp1 (i:=2) rfl,?_⟩
    refine ⟨_,hS.cel mp0 (i:=0) rfl,_,_,_,hS.cel mp0 (i:=1) rfl,_,hS.cel mp0 (i:=2) rfl,?_⟩
    refine wk_scaled H (x:=(b0,b1,b2)) (hx:=(ba,bl,bc)) hn hll (hq.mono tl2) (g.mono tl2) (hb1.mono tl2) hsc hS ?_
    clear hS
    rintro O M1 w rfl hq1 hS
    refine ⟨_,_,_,_,_,rfl,?_⟩
    refine newM_s hS ?_;clear hS;intro rr w hS
    refine stc_s hS rfl rfl ?_;clear hS;intro w hS
    refine stc_s hS rfl rfl ?_;clear hS;intro w hS
    cases ok with
    | false=>
      rw [nF]
      cases Option.some.inj (show some _=some _ from hx)
      exact hK _ hS.drop.mbDrop.drop.drop
    | true=>
      rw [nT]
      replace hx:=bnd (show (signsT n (vals M1)).bind _=_ from hx)
      obtain ⟨q,hq2,hx⟩:=hx
      cases Option.some.inj hx
      refine wk_signs H (O:=O) (low := .int .i64 low) (M:=M1) (n:=n) hq1 (by omega) hq2 hS ?_
      clear hS;intro w hS
      refine ⟨_,_,_,rfl,?_⟩
      exact hK _ hS.drop.drop
theorem wkH_Poly {w0 w:World} {L:List It} {r c:Int} {qa:Option Addr} {ql qc:Nat} {hh:List Hd} {l u0:List Dy} {u1:Int} (hS:Ho w0 w L) (hq:Ent L (rdA (dyC l hh) qa (ql*3) (qc*3))) (g:AllD L l hh) (hx:polyDo r c l=some (u0,u1))
    {K:Value→World→Prop} (hK:∀ (a0:Option Addr) (n0 c0:Nat) (hh0:List Hd) (it0:It) (w1:World),(∀ L1,it0∈L1→AllD L1 u0 hh0)→Ho w0 w1 (sl a0 (n0*3) (c0*3) (dyC u0 hh0) N.t_Dyad::it0::L)→K (.tuple #[.slice a0 n0 c0,.int .i64 u1]) w1) :
    CallsX P N.f_inertia_Poly #[.agg #[.int .i64 r,.int .i64 c,.slice qa ql qc]] w K:=by
  refine H.inertia_Poly _ _ _ _ _ w _ ?_
  unfold S_inertia_Poly
  replace hx:=bnd (show (T_inertia_Symmetric r c l).bind _=_ from hx)
  obtain ⟨b,hb,hx⟩:=hx
  have hnil:∀ w1,Ho w0 w1 L→u0 = []→K (.tuple #[.slice none 0 0,.int .i64 u1]) w1:=fun w1 h h0=>by
    subst h0
    exact hK none 0 0 [] _ w1 (fun _ _ => .nil) h.voidItem.noneD
  refine newM_s hS ?_;clear hS;intro r1 w hS
  refine ⟨_,hS.cel mp0 (i:=0) rfl,_,hS.cel mp0 (i:=1) rfl,_,_,_,hS.cel mp0 (i:=2) rfl,?_⟩
  refine wk_inertia_Symmetric H hS (hq.mono tl1) (g.mono tl1) hb ?_
  clear hS;intro w hS
  refine ⟨_,rfl,?_⟩
  cases b with
  | false=>
    rw [nF]
    cases Option.some.inj (show some _=some _ from hx)
    exact hnil _ hS.drop rfl
  | true=>
    rw [nT]
    replace hx:cond (sqG r c l) _ none=some (u0,u1):=hx
    cases hsq:sqG r c l with
    | false=>rw [hsq] at hx;cases hx
    | true=>
    rw [hsq,cT] at hx
    obtain ⟨n,rfl,rfl,hn,hll,htn⟩:=sqG_t hsq
    rw [htn] at hx
    replace hx:=bnd hx
    obtain ⟨⟨V,low,ok⟩,hsc,hx⟩:=hx
    dsimp only at hx
    refine ⟨_,hS.cel mp0 (i:=0) rfl,_,hS.cel mp0 (i:=1) rfl,_,_,_,hS.cel mp0 (i:=2) rfl,?_⟩
    refine wk_scaled H (x:=(false,[],0)) (hx:=(none,0,0)) hn hll (hq.mono tl1) (g.mono tl1) (Ent.nilD _) hsc hS ?_
    clear hS
    rintro O M1 w rfl hq1 hS
    refine ⟨_,_,_,_,_,rfl,?_⟩
    refine newM_s hS ?_;clear hS;intro rr w hS
    refine stc_s hS rfl rfl ?_;clear hS;intro w hS
    refine stc_s hS rfl rfl ?_;clear hS;intro w hS
    cases ok with
    | false=>
      rw [nF]
      cases Option.some.inj (show some _=some _ from hx)
      exact hnil _ hS.drop.mbDrop.drop rfl
    | true=>
      rw [nT]
      replace hx:=bnd (show (coefT n (vals M1)).bind _=_ from hx)
      obtain ⟨cs,hcs,hx⟩:=hx
      replace hx:cond (decide (cs.length≤1000000)) (polyGo low cs 0 []) none=some (u0,u1):=hx
      have hcl:cs.length≤1000000:=by
        rcases Nat.lt_or_ge 1000000 cs.length with h | h
        · rw [decide_eq_false (by omega)] at hx;cases hx
        · exact h
      rw [decide_eq_true hcl,cT] at hx
      refine wk_coefs H (O:=O) (low := .int .i64 low) (M:=M1) (n:=n) hq1 (by omega) hcs hS ?_
      clear hS;rintro h ds w hds hS
      refine ⟨_,_,_,rfl,?_⟩
      have hhl:h.2.1=ds.length:=by
        have:=(slA.rd (hS.hold _ (List.mem_cons_self ..))).len
        simpa using this
      have hdl:ds.length=cs.length:=by rw [← hds];simp
      generalize hZ:rowI N.t_bn_Int N.t_uint32 N.t_p_bn_Int (h,ds)++MQ N rr O (.int .i64 low) M1 (cl r1 [.int .i64 (n:Int),.int .i64 (n:Int),.slice qa ql qc] N.t_Dyads::L)=Z at *
      have hZr:cl rr [.slice O.1 O.2.1 O.2.2,.int .i64 low] N.t_inertia_rows∈Z:=by rw [← hZ];exact List.mem_append_right _ (List.mem_cons_self ..)
      have hZd:∀ d,d∈ds→bgI N.t_bn_Int N.t_uint32 d∈Z:=fun d hd=>by rw [← hZ];exact List.mem_append_left _ (List.mem_cons_of_mem _ (List.mem_map.2 ⟨d,hd,rfl⟩))
      have hZs:sl h.1 h.2.1 h.2.2 ((ds.map BgD.r).map ptrV) N.t_p_bn_Int∈Z:=by rw [← hZ];exact List.mem_append_left _ (List.mem_cons_self ..)
      have hZL:∀ {w1:World} {a b:It},Ho w0 w1 (a::b::Z)→Ho w0 w1 (a::b::L):=fun h=>by
        refine h.sub (.cons_cons _ (.cons_cons _ ?_))
        rw [← hZ]
        refine List.Sublist.trans ?_ (List.sublist_append_right _ _)
        unfold MQ mxAll
        exact .cons _ (.cons _ (List.Sublist.trans (.cons _ (List.Sublist.refl _)) (List.sublist_append_right _ _)))
      refine cutM_i (fun s w=>∃ (a':Option Addr) (m' c':Nat) (acc:List Dy) (hA:List Hd) (it:It),s=((a',m',c'),())∧acc.reverse=u0∧u1=0∧acc.length≤1000000∧AllD [it] acc hA∧Ho w0 w (sl a' (m'*3) (c'*3) (dyC acc hA) N.t_Dyad::it::L)) (fun J hJ=>?_) ?_
      · refine loop_n (fun k s w=>∃ (a':Option Addr) (m' c':Nat) (acc:List Dy) (hA:List Hd) (it:It),s=((a',m',c'),(k:Int),())∧acc.length=k∧polyGo low (cs.drop k) k acc=some (u0,u1)∧AllD [it] acc hA∧Ho w0 w (sl a' (m'*3) (c'*3) (dyC acc hA) N.t_Dyad::it::Z)) cs.length
          ⟨none,0,0,[],[],_,rfl,rfl,by simpa using hx,.nil,hS.voidItem.noneD⟩ ?_ ?_
        rotate_left
        · rintro s w X ⟨a',m',c',acc,hA,it,rfl,hal,hp,hg,hS⟩
          dsimp only
          refine cond_i (fun hc=>?_) (fun _=>?_)
          · simp [hhl,hdl] at hc
          rw [List.drop_length] at hp
          cases Option.some.inj (show some (acc.reverse,(0:Int))=_ from hp)
          exact hJ _ _ ⟨a',m',c',acc,hA,it,rfl,rfl,rfl,by omega,hg,hZL hS⟩
        clear hS
        rintro k s w X hk ⟨a',m',c',acc,hA,it,rfl,hal,hp,hg,hS⟩ hX
        dsimp only
        refine cond_i (fun _=>?_) (fun hc=>?_)
        rotate_left
        · simp [hhl,hdl] at hc;omega
        have hdk:ds[k]?=some (ds[k]'(by omega)):=List.getElem?_eq_getElem _
        generalize (ds[k]'(by omega))=d at hdk
        have hck:cs[k]?=some d.z:=by rw [← hds,List.getElem?_map,hdk];rfl
        have hdr:cs.drop k=d.z::cs.drop (k+1):=by
          obtain ⟨hk2,e⟩:=List.getElem?_eq_some_iff.1 hck
          rw [← e]
          exact List.drop_eq_getElem_cons hk2
        rw [hdr] at hp
        obtain ⟨⟨e0,e1,e2,e3⟩,hto,hp⟩:=bnd (show (T_inertia_told d.z _).bind _=_ from hp)
        dsimp only at hp
        refine rd_ptL (h:=h) hS (List.mem_cons_of_mem _ (List.mem_cons_of_mem _ hZs)) hdk rfl ?_
        intro b1 _
        refine ⟨_,hS.cel (List.mem_cons_of_mem _ (List.mem_cons_of_mem _ hZr)) (i:=1) rfl,?_⟩
        refine wk_inertia_told H hS (Ent.bg (List.mem_cons_of_mem _ (List.mem_cons_of_mem _ (hZd d (List.mem_of_getElem? hdk))))) hto ?_
        clear hS;intro a1 n1 c1 w hS
        refine ⟨_,_,_,_,_,_,rfl,?_⟩
        refine newM_s hS ?_;clear hS;intro r39 w hS
        refine stc_s hS rfl rfl ?_;clear hS;intro w hS
        refine stc_s hS rfl rfl ?_;clear hS;intro w hS
        refine stc_s hS rfl rfl ?_;clear hS;intro w hS
        refine cond_i (fun hc=>?_) (fun hc=>?_)
        · rw [show (e3 != 0)=true from hc,cT] at hp
          cases Option.some.inj (show some (([]:List Dy),(3:Int))=_ from hp)
          exact hnil _ (hZL hS.drop.drop).drop.drop rfl
        rw [show (e3 != 0)=false from hc,cF] at hp
        refine ⟨_,hS.cel mp0 (i:=0) rfl,_,_,_,hS.cel mp0 (i:=1) rfl,_,hS.cel mp0 (i:=2) rfl,?_⟩
        replace hS:=hS.drop
        have hz:Ent [sl a1 n1 c1 (List.map (Value.int .u64) e1) N.t_uint64] (rdA (List.map (Value.int .u64) e1) a1 n1 c1):=Ent.sl mp0
        replace hS:=(hS.perm (((List.Perm.swap _ _ _).cons _).trans (.refl _))).both
        replace hz:=Ent.both (L:=[]) (y:=it) (hz.mono (incl_one mp0))
        replace hg:=AllD.both (L:=[]) (x:=sl a1 n1 c1 (List.map (Value.int .u64) e1) N.t_uint64) (hg.mono (incl_one mp1))
        refine litD_s (X:=[(e0,e1,e2)]) (H:=[(a1,n1,c1)]) (m:=1) hS rfl rfl rfl ?_
        clear hS;intro rl w hS
        have hlit:=slA.rd (hS.hold _ (List.mem_cons_self ..))
        replace hS:=hS.drop.flip2
        refine appD_s (X:=acc) (H:=hA) (Y:=[(e0,e1,e2)]) (G:=[(a1,n1,c1)]) hS (by simp;omega) hg.len rfl hlit rfl rfl ?_
        clear hS hlit;intro a2 c2 w hS
        refine hX _ _ ⟨a2,m'+1,c2,acc ++ [(e0,e1,e2)],hA ++ [(a1,n1,c1)],_,by rw [wrU (by omega)],by simp [hal],hp,hg.append (AllD.one hz),hS⟩
      clear hS
      rintro s w ⟨a',m',c',acc,hA,it,rfl,rfl,rfl,hal,hg,hS⟩
      refine wk_reverse H (p:=[it]) hS hg (by omega) ?_
      clear hS;intro h1 w hg1 hS
      refine ⟨rfl,?_⟩
      exact hK a' m' c' h1 it w (fun L1 hi=>hg1.mono (incl_one hi)) hS
end
end Go.Eng
