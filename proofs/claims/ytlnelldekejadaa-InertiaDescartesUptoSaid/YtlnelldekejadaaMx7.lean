/-
  inertia's rows: signs. No condition.
-/
import Derived.Test.YtlnelldekejadaaMx5
import Derived.Test.YtlnelldekejadaaWk
set_option linter.all false
set_option maxRecDepth 100000
set_option maxHeartbeats 4000000
namespace Go.Eng
open Go
section
variable {I E tL tO tR q:Nat} {O:Hd} {low:Value} {M:List Rw} {L:List It} {w0 w:World} {i j:Nat} {x:Rw} {d d':BgD} {y z:It}
theorem mxAll_push:(y::mxAll I E tL tO tR q O low M L).Perm (mxAll I E tL tO tR q O low M (y::L)):=by
  unfold mxAll
  refine (List.Perm.swap _ _ _).trans (.cons _ ((List.Perm.swap _ _ _).trans (.cons _ ?_)))
  exact List.perm_middle.symm
theorem Ho.mxPush (hS:Ho w0 w (y::mxAll I E tL tO tR q O low M L)):Ho w0 w (mxAll I E tL tO tR q O low M (y::L)):=hS.perm mxAll_push
theorem Ho.mxPop (hS:Ho w0 w (mxAll I E tL tO tR q O low M (y::L))):Ho w0 w (y::mxAll I E tL tO tR q O low M L):=hS.perm mxAll_push.symm
theorem Ho.mxFlip (hS:Ho w0 w (y::mxAll I E tL tO tR q O low M (z::L))):Ho w0 w (z::mxAll I E tL tO tR q O low M (y::L)):=
  hS.perm (((mxAll_push (y:=z)).symm.cons y).trans ((List.Perm.swap _ _ _).trans (mxAll_push.cons z)))
theorem mxAll_tail (h:y∈L):y∈mxAll I E tL tO tR q O low M L:=List.mem_cons_of_mem _ (List.mem_cons_of_mem _ (List.mem_append_right _ h))
theorem rd_rowC {a:Addr} (hS:Ho w0 w (mxAll I E tL tO tR q O low M L)) (hx:M[i]?=some x) (ha:O.1=some a):w.cell? (a.add (((i:Nat):Int).toNat*1))=some (.slice x.1.1 x.1.2.1 x.1.2.2):=
  rdL_get hS.mxOr ha (by rw [Int.toNat_natCast,List.getElem?_map,hx];rfl)
theorem rd_entC {b:Addr} (hS:Ho w0 w (mxAll I E tL tO tR q O low M L)) (hx:M[i]?=some x) (hd:x.2[j]?=some d) (hb:x.1.1=some b):w.cell? (b.add (((j:Nat):Int).toNat*1))=some (.pointer (some ⟨d.r,0,none⟩)):=
  rd_get (enc:=ptrV) (hS.mxRr hx) hb (by rw [Int.toNat_natCast,List.getElem?_map,hd];rfl)
theorem Ho.mxNew2 (hx:M[i]?=some x) (hd:x.2[j]?=some d) (hS:Ho w0 w (sl x.1.1 x.1.2.1 x.1.2.2 (((x.2.map BgD.r).set j d'.r).map ptrV) tL::(cl q [.slice O.1 O.2.1 O.2.2,low] tR::mxO tO O M::((x.2.map (bgI I E)++mxR I E tL (M.eraseIdx i))++(bg I E d'.r d'.a d'.n d'.c d'.z::L))))):Ho w0 w (mxAll I E tL tO tR q O low (M.set i (x.1,x.2.set j d')) L):=by
  refine Ho.mxNew (hS.perm (.cons _ ?_)) hx hd
  refine ((List.perm_middle.cons _).cons _).trans ?_
  exact ((List.Perm.swap _ _ _).cons _).trans (.swap _ _ _)
end
theorem pt_of {M:List Rw} {i j:Nat} {x:Rw} {d:BgD} (hx:M[i]?=some x) (hd:x.2[j]?=some d):pt M i j=some d.r:=by
  unfold pt;rw [hx,Option.bind_some,hd];rfl
theorem pt_set2 {M:List Rw} {i j:Nat} {x:Rw} {d':BgD} (hx:M[i]?=some x) {i2 j2:Nat} (h:i2≠i∨j2≠j):pt (M.set i (x.1,x.2.set j d')) i2 j2=pt M i2 j2:=by
  unfold pt
  by_cases e:i2=i
  · subst e
    rw [List.getElem?_set_self (get_lt hx),hx,Option.bind_some,Option.bind_some,List.getElem?_set_ne (by omega)]
  · rw [List.getElem?_set_ne (by omega)]
def elimE (n at_:Nat) (p last:Int) (i:Nat) (j':Nat) (V:Mt):Option Mt:=
  (bigMul p (ent V i (at_+1+j'))).bind fun x=>(bigMul (ent V i at_) (ent V at_ (at_+1+j'))).bind fun y=>(bigSub x y).bind fun z=>(bigQuo z last).bind fun v=>some (setE V i (at_+1+j') v)
def elimR (n at_:Nat) (p last:Int) (i':Nat):Mt→Option Mt:=foldO (elimE n at_ p last (at_+1+i')) (n-at_-1)
def elimT (n at_:Nat) (p last:Int):Mt→Option Mt:=foldO (elimR n at_ p last) (n-at_-1)
def sgn (z:Int):Int:=if z<0 then -1 else if z=0 then 0 else 1
def signsGo (n:Nat):Nat→Nat→Mt→Int→Int→Int→Option (Int×Int×Int)
  | 0,_,_,_,b,a=>some (b,0,a)
  | k+1,at_,V,last,b,a=>(pivotT n V at_).bind fun o=>cond o.1
      ((elimT n at_ (ent o.2 at_ at_) last o.2).bind fun V2=>cond (sgn (ent o.2 at_ at_)==sgn last) (signsGo n k (at_+1) V2 (ent o.2 at_ at_) b (a+1)) (signsGo n k (at_+1) V2 (ent o.2 at_ at_) (b+1) a))
      (some (b,((n-at_:Nat):Int),a))
def signsT (n:Nat) (V:Mt):Option (Int×Int×Int):=signsGo n n 0 V 1 0 0
def LastOk (M:List Rw) (k rl r0:Nat) (last:Int):Prop:=(k=0∧rl=r0∧last=1)∨(0<k∧pt M (k-1) (k-1)=some rl∧ent (vals M) (k-1) (k-1)=last)
theorem LastOk.ent {N:Nums} {q:Nat} {O:Hd} {low:Value} {M:List Rw} {L:List It} {n k rl r0 n0 c0:Nat} {a0:Option Addr} {last:Int} (h:LastOk M k rl r0 last) (hq:Sq n (vals M)) (hk:k≤n) (hL:bg N.t_bn_Int N.t_uint32 r0 a0 n0 c0 1∈L):∃ (a:Option Addr) (m c:Nat),Ent (MQ N q O low M L) (bgR N.t_bn_Int rl a m c last):=by
  rcases h with ⟨rfl,rfl,rfl⟩ | ⟨h1,h2,h3⟩
  · exact ⟨_,_,_,Ent.bg (mxAll_tail hL)⟩
  · obtain ⟨x,d,hx,hd,hz,_⟩:=sq_ent hq (i:=k-1) (j:=k-1) (by omega) (by omega)
    rw [pt_of hx hd] at h2
    obtain rfl:=Option.some.inj h2
    rw [← h3,← hz]
    exact ⟨_,_,_,Ent.mxBg hx hd⟩
theorem ent_setE2 {n:Nat} {V:Mt} (h:Sq n V) {i j i2 j2:Nat} {y:Int} (hi:i<n) (hj:j<n) (hne:i2≠i∨j2≠j):ent (setE V i j y) i2 j2=ent V i2 j2:=by
  rw [ent_setE h hi hj,if_neg (by omega)]
end Go.Eng
/-
  inertia's rows: signs, walked. No condition.
-/
set_option maxRecDepth 100000
set_option maxHeartbeats 4000000
namespace Go.Eng
open Go
theorem foldO_ind {α:Type} {f:Nat→α→Option α} (Q:α→Prop):∀ {n:Nat} {a b:α},foldO f n a=some b→Q a→(∀ k c d,k<n→Q c→f k c=some d→Q d)→Q b
  | 0,a,b,h,h0,_=>by obtain rfl:=Option.some.inj h;exact h0
  | n+1,a,b,h,h0,hs=>by
    obtain ⟨c,h1,h2⟩:=bnd (show (foldO f n a).bind (f n)=some b from h)
    exact hs n c b (by omega) (foldO_ind Q h1 h0 fun k c d hk=>hs k c d (by omega)) h2
theorem ent_set_row {V:Mt} {i i2 j2:Nat} {l:List Int} (h:i2≠i):ent (V.set i l) i2 j2=ent V i2 j2:=by
  unfold ent
  rw [List.getD_eq_getElem?_getD (l:=V.set _ _),List.getElem?_set_ne (by omega),← List.getD_eq_getElem?_getD]
theorem swC_keep {n:Nat} {V:Mt} (h:Sq n V) {a b i j:Nat} (ha:j≠a) (hb:j≠b):∀ {k:Nat},k≤n→ent (swC a b k V) i j=ent V i j
  | 0,_=>rfl
  | k+1,hk=>by
    have ih:=swC_keep h (a:=a) (b:=b) (i:=i) ha hb (k:=k) (by omega)
    have hq:=sq_swC h (a:=a) (b:=b) (k:=k) (by omega)
    show ent ((swC a b k V).set k (swL ((swC a b k V).getD k []) a b)) i j=_
    by_cases e:i=k
    · subst e
      rw [← ih]
      unfold ent
      have hl:i<(swC a b i V).length:=by rw [hq.1];omega
      rw [List.getD_eq_getElem?_getD (l:=List.set _ _ _),List.getElem?_set_self hl,Option.getD_some]
      unfold swL
      rw [List.getD_eq_getElem?_getD,List.getElem?_set_ne (by omega),List.getElem?_set_ne (by omega),← List.getD_eq_getElem?_getD]
    · rw [ent_set_row e,ih]
theorem addRowT_sq {n row col:Nat} {V V':Mt} (hq:Sq n V) (hr:row<n) (h:addRowT n row col V=some V'):Sq n V'∧∀ i j,i≠row→ent V' i j=ent V i j:=by
  refine foldO_ind (fun W=>Sq n W∧∀ i j,i≠row→ent W i j=ent V i j) h ⟨hq,fun _ _ _=>rfl⟩ ?_
  rintro k c d hk ⟨h1,h2⟩ h3
  obtain ⟨y,_,h4⟩:=bnd h3
  obtain rfl:=Option.some.inj h4
  exact ⟨sq_setE h1 hr,fun i j hi=>by rw [ent_setE2 h1 hr hk (.inl hi)];exact h2 i j hi⟩
theorem addColT_sq {n row col:Nat} {V V':Mt} (hq:Sq n V) (hr:row<n) (h:addColT n row col V=some V'):Sq n V'∧∀ i j,j≠row→ent V' i j=ent V i j:=by
  refine foldO_ind (fun W=>Sq n W∧∀ i j,j≠row→ent W i j=ent V i j) h ⟨hq,fun _ _ _=>rfl⟩ ?_
  rintro k c d hk ⟨h1,h2⟩ h3
  obtain ⟨y,_,h4⟩:=bnd h3
  obtain rfl:=Option.some.inj h4
  exact ⟨sq_setE h1 hk,fun i j hi=>by rw [ent_setE2 h1 hk hr (.inr hi)];exact h2 i j hi⟩
theorem pivotT_keep {n at_:Nat} {V V':Mt} {b:Bool} (hq:Sq n V) (ha:at_<n) (h:pivotT n V at_=some (b,V')):∀ i j,i<at_→j<at_→ent V' i j=ent V i j:=by
  intro i j hi hj
  unfold pivotT at h
  split at h
  · have h:=Option.some.inj h
    cases h;rfl
  · rename_i row col hf
    obtain ⟨h1,h2,h3⟩:=findT_in (Nat.le_of_lt ha) hf
    obtain ⟨V1,hV1,h⟩:=bnd h
    have h:=Option.some.inj h
    cases h
    have key:Sq n V1∧ent V1 i j=ent V i j:=by
      by_cases e:row=col
      · rw [decide_eq_false (by omega),cF] at hV1
        obtain rfl:=Option.some.inj hV1
        exact ⟨hq,rfl⟩
      · rw [decide_eq_true e,cT] at hV1
        obtain ⟨V2,hV2,hV1⟩:=bnd hV1
        obtain ⟨k1,k2⟩:=addRowT_sq hq h3 hV2
        obtain ⟨k3,k4⟩:=addColT_sq k1 h3 hV1
        exact ⟨k3,by rw [k4 i j (by omega),k2 i j (by omega)]⟩
    rw [swC_keep (sq_swR key.1 ha h3) (by omega) (by omega) (Nat.le_refl n)]
    unfold swR
    rw [ent_set_row (by omega),ent_set_row (by omega)]
    exact key.2
section
variable {N:Nums} {P:Program} (H:AllOk N P)
include H
theorem wk_signs {w0 w:World} {L:List It} {q:Nat} {O:Hd} {low:Value} {M:List Rw} {n:Nat} {res:Int×Int×Int} (hq:Sq n (vals M)) (hn:n≤1073741824) (hx:signsT n (vals M)=some res)
    (hS:Ho w0 w (MQ N q O low M L)) {K:Value→World→Prop}
    (hK:∀ w1:World,Ho w0 w1 L→K (.agg #[.int .i64 res.1,.int .i64 res.2.1,.int .i64 res.2.2]) w1) :
    CallsX P N.f_p_inertia_rows_signs #[.pointer (some ⟨q,0,none⟩)] w K:=by
  refine H.p_inertia_rows_signs _ w _ ?_
  unfold S_p_inertia_rows_signs
  refine newM_s hS ?_
  clear hS;intro r1 w hS
  replace hS:=hS.mxPush
  refine optM_s ⟨_,_,_,hS.mxHd,?_⟩
  have hO:=hS.mxLen
  have hMl:M.length=n:=by rw [← vals_len];exact hq.1
  rw [hO,hMl]
  refine wk_bn_NewInt H hS (u0:=1) (by decide) ?_
  clear hS;intro r0 a0 n0 c0 w hS
  refine ⟨_,rfl,?_⟩
  replace hS:=hS.mxFlip.mxPush
  refine newM_s hS ?_
  clear hS;intro r8 w hS
  replace hS:=hS.mxPush
  -- the end, in any of two ways
  have fin:∀ (M1:List Rw) (X:List It) (w:World),Ho w0 w (MQ N q O low M1 (cl r8 [.int .i64 res.1,.int .i64 res.2.1,.int .i64 res.2.2] N.t_Signs::cl r1 [.int .i64 0,.int .i64 0,.int .i64 0] N.t_Signs::bg N.t_bn_Int N.t_uint32 r0 a0 n0 c0 1::L)) →
      (∃ n20:Int,w.cell? ⟨r8,0,none⟩=some (.int .i64 n20) ∧
          ∃ n21:Int,w.cell? ((⟨r8,0,none⟩:Addr).add 1)=some (.int .i64 n21) ∧
          ∃ n22:Int,w.cell? ((⟨r8,0,none⟩:Addr).add 2)=some (.int .i64 n22) ∧
          stM ⟨r1,0,none⟩ (.int .i64 n20) w fun w23=>
          stM ((⟨r1,0,none⟩:Addr).add 1) (.int .i64 n21) w23 fun w24=>
          stM ((⟨r1,0,none⟩:Addr).add 2) (.int .i64 n22) w24 fun w25=>
          ∃ n26:Int,w25.cell? ⟨r1,0,none⟩=some (.int .i64 n26) ∧
          ∃ n27:Int,w25.cell? ((⟨r1,0,none⟩:Addr).add 1)=some (.int .i64 n27) ∧
          ∃ n28:Int,w25.cell? ((⟨r1,0,none⟩:Addr).add 2)=some (.int .i64 n28) ∧
          K (.agg #[.int .i64 n26,.int .i64 n27,.int .i64 n28]) w25):=by
    intro M1 X w hS
    refine ⟨_,hS.cel (mxAll_tail mp0) rfl,_,hS.cel (mxAll_tail mp0) (i:=1) rfl,_,hS.cel (mxAll_tail mp0) (i:=2) rfl,?_⟩
    replace hS:=hS.mxPop.mxFlip
    refine stc_s hS rfl rfl ?_;clear hS;intro w hS
    refine stc_s hS rfl rfl ?_;clear hS;intro w hS
    refine stc_s hS rfl rfl ?_;clear hS;intro w hS
    refine ⟨_,hS.cel mp0 rfl,_,hS.cel mp0 (i:=1) rfl,_,hS.cel mp0 (i:=2) rfl,?_⟩
    refine hK w (hS.sub ?_)
    refine .cons _ (.cons _ (.cons _ ?_))
    refine List.Sublist.trans ?_ (List.sublist_append_right _ _)
    exact .cons _ (.cons _ (List.Sublist.refl _))
  refine cutM_i (fun _ w=>∃ M1:List Rw,Ho w0 w (MQ N q O low M1 (cl r8 [.int .i64 res.1,.int .i64 res.2.1,.int .i64 res.2.2] N.t_Signs::cl r1 [.int .i64 0,.int .i64 0,.int .i64 0] N.t_Signs::bg N.t_bn_Int N.t_uint32 r0 a0 n0 c0 1::L))) (fun J hJ=>?_) ?_
  rotate_left
  · rintro s w ⟨M1,hS⟩
    exact fin M1 [] w hS
  refine loop_n (fun k s w=>∃ (rl:Nat) (M1:List Rw) (last b a:Int),s=(some ⟨rl,0,none⟩,(k:Int),())∧signsGo n (n-k) k (vals M1) last b a=some res∧Sq n (vals M1)∧LastOk M1 k rl r0 last∧0≤b∧b≤k∧0≤a∧a≤k ∧
      Ho w0 w (MQ N q O low M1 (cl r8 [.int .i64 b,.int .i64 0,.int .i64 a] N.t_Signs::cl r1 [.int .i64 0,.int .i64 0,.int .i64 0] N.t_Signs::bg N.t_bn_Int N.t_uint32 r0 a0 n0 c0 1::L))) n
    ⟨r0,M,1,0,0,rfl,hx,hq,.inl ⟨rfl,rfl,rfl⟩,by omega,by omega,by omega,by omega,hS⟩ ?_ ?_
  rotate_left
  · rintro s w X ⟨rl,M1,last,b,a,rfl,hg,hq1,hl,hb0,hb1,ha0,ha1,hS⟩
    dsimp only
    refine cond_i (fun hc=>?_) (fun _=>?_)
    · simp at hc
    rw [Nat.sub_self] at hg
    have hg:=Option.some.inj (show some (b,(0:Int),a)=some res from hg)
    subst hg
    exact hJ _ _ ⟨M1,hS⟩
  rintro k s w X hk ⟨rl,M1,last,b,a,rfl,hg,hq1,hl,hb0,hb1,ha0,ha1,hS⟩ hX
  dsimp only
  refine cond_i (fun _=>?_) (fun hc=>?_)
  rotate_left
  · simp at hc;omega
  rw [show n-k=(n-(k+1))+1 by omega] at hg
  obtain ⟨⟨ok,V2⟩,hpv,hg⟩:=bnd (show (pivotT n (vals M1) k).bind _=some res from hg)
  refine wk_pivot H hq1 hn hk hpv hS ?_
  clear hS;intro M2 w hv2 hq2 hp2 hS
  refine ⟨_,rfl,?_⟩
  cases ok with
  | false=>
    have hg:=Option.some.inj (show some (b,((n-k:Nat):Int),a)=some res from hg)
    subst hg
    refine cond_i (fun _=>?_) (fun hc=>?_)
    rotate_left
    · cases hc
    refine stc_s hS.mxPop rfl rfl ?_;clear hS;intro w hS
    replace hS:=hS.mxPush
    rw [wrI (by omega) (by omega),show (n:Int)-(k:Int)=((n-k:Nat):Int) by omega] at hS
    exact fin M2 [] w hS
  | true=>
    have hkeep:=pivotT_keep hq1 hk hpv
    dsimp only at hg
    rw [cT] at hg
    obtain ⟨V3,hel,hg⟩:=bnd hg
    subst hv2
    refine cond_i (fun hc=>?_) (fun _=>?_)
    · cases hc
    -- the pivot
    obtain ⟨x,dp,hxp,hdp,hzp,_⟩:=sq_ent hq2 (i:=k) (j:=k) hk hk
    have hl2:LastOk M2 k rl r0 last:=by
      rcases hl with h | ⟨h1,h2,h3⟩
      · exact .inl h
      · exact .inr ⟨h1,by rw [hp2 _ _ (by omega) (by omega)];exact h2,by rw [hkeep _ _ (by omega) (by omega)];exact h3⟩
    refine rd_ent hS hxp hdp rfl rfl ?_
    intro a1 b1 _ _
    refine big_Sign_x H hS (Ent.mxBg hxp hdp) rfl ?_
    clear hS;intro w hS
    refine ⟨_,rfl,?_⟩
    obtain ⟨al,ml,cl_,hle⟩:=hl2.ent (N:=N) (q:=q) (O:=O) (low:=low) (L:=cl r8 [.int .i64 b,.int .i64 0,.int .i64 a] N.t_Signs::cl r1 [.int .i64 0,.int .i64 0,.int .i64 0] N.t_Signs::bg N.t_bn_Int N.t_uint32 r0 a0 n0 c0 1::L) hq2 (by omega) mp2
    refine big_Sign_x H hS hle rfl ?_
    clear hS;intro w hS
    refine ⟨_,rfl,?_⟩
    rw [hzp]
    generalize hp:ent (vals M2) k k=p at *
    -- the count
    refine cutM_i (fun _ w=>∃ b' a':Int,signsGo n (n-(k+1)) (k+1) V3 p b' a'=some res∧0≤b'∧b'≤k+1∧0≤a'∧a'≤k+1 ∧
      Ho w0 w (MQ N q O low M2 (cl r8 [.int .i64 b',.int .i64 0,.int .i64 a'] N.t_Signs::cl r1 [.int .i64 0,.int .i64 0,.int .i64 0] N.t_Signs::bg N.t_bn_Int N.t_uint32 r0 a0 n0 c0 1::L))) (fun J2 hJ2=>?_) ?_
    · refine cond_i (fun hc=>?_) (fun hc=>?_)
      · refine ⟨_,hS.cel (mxAll_tail mp0) (i:=2) rfl,?_⟩
        refine stc_s hS.mxPop rfl rfl ?_;clear hS;intro w hS
        replace hS:=hS.mxPush
        rw [wrI (by omega) (by omega)] at hS
        refine hJ2 _ _ ⟨b,a+1,?_,hb0,by omega,by omega,by omega,hS⟩
        rw [show (sgn p==sgn last)=true from hc,cT] at hg
        exact hg
      · refine ⟨_,hS.cel (mxAll_tail mp0) (i:=0) rfl,?_⟩
        refine stc_s hS.mxPop rfl rfl ?_;clear hS;intro w hS
        replace hS:=hS.mxPush
        rw [wrI (by omega) (by omega)] at hS
        refine hJ2 _ _ ⟨b+1,a,?_,by omega,by omega,ha0,by omega,hS⟩
        rw [show (sgn p==sgn last)=false from hc,cF] at hg
        exact hg
    clear hg hS hb0 hb1 ha0 ha1
    rintro s w ⟨b',a',hg,hb0,hb1,ha0,ha1,hS⟩
    generalize hLL:(cl r8 [.int .i64 b',.int .i64 0,.int .i64 a'] N.t_Signs::cl r1 [.int .i64 0,.int .i64 0,.int .i64 0] N.t_Signs::bg N.t_bn_Int N.t_uint32 r0 a0 n0 c0 1::L)=L2 at *
    have hone:bg N.t_bn_Int N.t_uint32 r0 a0 n0 c0 1∈L2:=by rw [← hLL];exact mp2
    -- what is kept of the matrix by the rounds
    refine cutM_i (fun _ w=>∃ M3:List Rw,vals M3=V3∧Sq n (vals M3)∧(∀ i j,i≤k∨j≤k→pt M3 i j=pt M2 i j∧ent (vals M3) i j=ent (vals M2) i j)∧Ho w0 w (MQ N q O low M3 L2)) (fun J3 hJ3=>?_) ?_
    rotate_left
    · rintro s w ⟨M3,hv3,hq3,hk3,hS⟩
      subst hv3
      refine hX _ _ ⟨dp.r,M3,p,b',a',?_,hg,hq3,.inr ⟨by omega,?_,?_⟩,hb0,by omega,ha0,by omega,by rw [hLL];exact hS⟩
      · rw [wrU (by omega)]
      · rw [Nat.add_sub_cancel,(hk3 k k (.inl (Nat.le_refl _))).1];exact pt_of hxp hdp
      · rw [Nat.add_sub_cancel,(hk3 k k (.inl (Nat.le_refl _))).2];exact hp
    have e1:IntKind.i64.wrap ((k:Int)+1)=((k+1+0:Nat):Int):=by rw [wrU (by omega)]
    rw [e1]
    refine loop_n (fun m s w=>s=(((k+1+m:Nat):Int),())∧∃ M3:List Rw,foldO (elimR n k p last) m (vals M2)=some (vals M3)∧Sq n (vals M3)∧(∀ i j,i≤k∨j≤k→pt M3 i j=pt M2 i j∧ent (vals M3) i j=ent (vals M2) i j)∧Ho w0 w (MQ N q O low M3 L2)) (n-k-1)
      ⟨rfl,M2,rfl,hq2,fun _ _ _=>⟨rfl,rfl⟩,hS⟩ ?_ ?_
    rotate_left
    · rintro s w X ⟨rfl,M3,hf3,hq3,hk3,hS⟩
      dsimp only
      refine cond_i (fun hc=>?_) (fun _=>?_)
      · simp at hc;omega
      have:some (vals M3)=some V3:=hf3.symm.trans hel
      exact hJ3 _ _ ⟨M3,Option.some.inj this,hq3,hk3,hS⟩
    rintro m s w X4 hm ⟨rfl,M3,hf3,hq3,hk3,hS⟩ hX4
    dsimp only
    refine cond_i (fun _=>?_) (fun hc=>?_)
    rotate_left
    · simp at hc;omega
    obtain ⟨V4,hrow,hf4⟩:=foldO_at hel hm hf3
    refine cutM_i (fun _ w=>∃ M4:List Rw,vals M4=V4∧Sq n (vals M4)∧(∀ i j,i≤k∨j≤k→pt M4 i j=pt M2 i j∧ent (vals M4) i j=ent (vals M2) i j)∧Ho w0 w (MQ N q O low M4 L2)) (fun J5 hJ5=>?_) ?_
    rotate_left
    · rintro s w ⟨M4,hv4,hq4,hk4,hS⟩
      subst hv4
      refine hX4 _ _ ⟨?_,M4,hf4,hq4,hk4,hS⟩
      rw [wrU (by omega)];rfl
    refine loop_n (fun t s w=>s=(((k+1+t:Nat):Int),())∧∃ M4:List Rw,foldO (elimE n k p last (k+1+m)) t (vals M3)=some (vals M4)∧Sq n (vals M4)∧(∀ i j,i≤k∨j≤k→pt M4 i j=pt M2 i j∧ent (vals M4) i j=ent (vals M2) i j)∧Ho w0 w (MQ N q O low M4 L2)) (n-k-1)
      ⟨rfl,M3,rfl,hq3,hk3,hS⟩ ?_ ?_
    rotate_left
    · rintro s w X ⟨rfl,M4,hf5,hq4,hk4,hS⟩
      dsimp only
      refine cond_i (fun hc=>?_) (fun _=>?_)
      · simp at hc;omega
      have:some (vals M4)=some V4:=hf5.symm.trans hrow
      exact hJ5 _ _ ⟨M4,Option.some.inj this,hq4,hk4,hS⟩
    rintro t s w X6 ht ⟨rfl,M4,hf5,hq4,hk4,hS⟩ hX6
    dsimp only
    refine cond_i (fun _=>?_) (fun hc=>?_)
    rotate_left
    · simp at hc;omega
    obtain ⟨V6,hel6,hf6⟩:=foldO_at hrow ht hf5
    obtain ⟨v1,hm1,hel6⟩:=bnd hel6
    obtain ⟨v2,hm2,hel6⟩:=bnd hel6
    obtain ⟨v3,hm3,hel6⟩:=bnd hel6
    obtain ⟨v4,hm4,hel6⟩:=bnd hel6
    obtain rfl:=Option.some.inj hel6
    obtain ⟨xi,dij,hxi,hdij,hzij,_⟩:=sq_ent hq4 (i:=k+1+m) (j:=k+1+t) (by omega) (by omega)
    obtain ⟨xi',dia,hxi',hdia,hzia,_⟩:=sq_ent hq4 (i:=k+1+m) (j:=k) (by omega) (by omega)
    rw [hxi] at hxi';cases hxi'
    obtain ⟨xa,daj,hxa,hdaj,hzaj,_⟩:=sq_ent hq4 (i:=k) (j:=k+1+t) (by omega) (by omega)
    obtain ⟨xp,dp2,hxp2,hdp2,hzp2,_⟩:=sq_ent hq4 (i:=k) (j:=k) (by omega) (by omega)
    have hpr:dp2.r=dp.r:=by
      have h1:=(hk4 k k (.inl (Nat.le_refl _))).1
      rw [pt_of hxp2 hdp2,pt_of hxp hdp] at h1
      exact Option.some.inj h1
    have hpz:dp2.z=p:=by rw [hzp2,(hk4 k k (.inl (Nat.le_refl _))).2];exact hp
    rw [← hzij,← hpz] at hm1
    rw [← hzia,← hzaj] at hm2
    -- x
    refine newM_s hS ?_
    clear hS;intro rx w hS
    replace hS:=Ho.bgNew (E:=N.t_uint32) hS
    replace hS:=hS.mxPush
    refine rd_ent hS hxi hdij rfl rfl ?_
    intro a1 b1 _ _
    rw [← hpr]
    refine big_Mul_zxy H hS.mxPop (Ent.mxBg hxp2 hdp2) (Ent.mxBg hxi hdij) hm1 ?_
    clear hS;intro ax nx cx w hS
    replace hS:=hS.mxPush
    refine ⟨_,rfl,?_⟩
    refine rd_ent hS hxi hdia rfl rfl ?_
    intro a2 b2 ha2 hb2
    refine rd_ent hS hxa hdaj rfl rfl ?_
    intro a3 b3 ha3 hb3
    refine drM_s hS ?_;clear hS;intro w hS
    refine newM_s hS ?_
    clear hS;intro ry w hS
    replace hS:=Ho.bgNew (E:=N.t_uint32) hS
    replace hS:=hS.mxPush
    refine ⟨rd_entC hS hxa hdaj hb3,rd_rowC hS hxa ha3,hS.mxHd,rd_entC hS hxi hdia hb2,rd_rowC hS hxi ha2,hS.mxHd,?_⟩
    refine drM_s hS ?_;clear hS;intro w hS
    refine big_Mul_zxy H hS.mxPop (Ent.mxBg hxi hdia) (Ent.mxBg hxa hdaj) hm2 ?_
    clear hS;intro ay ny cy w hS
    refine ⟨_,rfl,?_⟩
    refine drM_s hS ?_;clear hS;intro w hS
    refine big_Sub_zzy H hS.mxFlip (Ent.bg (mxAll_tail mp0)) hm3 ?_
    clear hS;intro ax2 nx2 cx2 w hS
    replace hS:=hS.mxPush
    refine ⟨_,rfl,?_⟩
    refine drM_s hS ?_;clear hS;intro w hS
    refine rd_row hS hxi rfl ?_
    intro a4 ha4
    refine drM_s hS ?_;clear hS;intro w hS
    have hl4:LastOk M4 k rl r0 last:=by
      rcases hl2 with h | ⟨h1,h2,h3⟩
      · exact .inl h
      · exact .inr ⟨h1,by rw [(hk4 _ _ (.inl (by omega))).1];exact h2,by rw [(hk4 _ _ (.inl (by omega))).2];exact h3⟩
    obtain ⟨al4,ml4,cl4,hle4⟩:=hl4.ent (N:=N) (q:=q) (O:=O) (low:=low) (L:=bg N.t_bn_Int N.t_uint32 ry ay ny cy v2::L2) hq4 (by omega) (List.mem_cons_of_mem _ hone)
    refine big_Quo_zzy H hS.mxPop hle4 hm4 ?_
    clear hS;intro ax3 nx3 cx3 w hS
    replace hS:=hS.mxPush
    refine ⟨_,rfl,rd_rowC hS hxi ha4,hS.mxHd,?_⟩
    have hrl:=(hS.mxRr hxi).len
    simp only [List.length_map] at hrl
    have hjl:=get_lt hdij
    refine ⟨by omega,by omega,?_⟩
    cases hb5:xi.1.1 with
    | none=>
      obtain ⟨y,hy,_⟩:=(hS.mxRr hxi).at_ 0 (by omega)
      rw [hb5] at hy;cases hy
    | some b5=>
      refine optM_s ?_
      refine drM_s hS ?_;clear hS;intro w hS
      refine sto_s (ws:=xi.2.map BgD.r) (enc:=ptrV) (y:=rx) (hS.mxRow hxi) hb5 (by simp;omega) ?_
      clear hS;intro w hS
      rw [Int.toNat_natCast] at hS
      have hS:=Ho.mxNew2 (d':=⟨rx,ax3,nx3,cx3,v4⟩) hxi hdij hS
      replace hS:=hS.mxPop.drop
      refine drM_s hS ?_;clear hS;intro w hS
      refine hX6 _ _ ⟨?_,_,?_,?_,?_,hS⟩
      · rw [wrU (by omega)];rfl
      · rw [vals_setE hxi];exact hf6
      · rw [vals_setE hxi];exact sq_setE hq4 (by omega)
      · intro i j hij
        rw [pt_set2 hxi (by omega),vals_setE hxi,ent_setE2 hq4 (by omega) (by omega) (by omega)]
        exact hk4 i j hij
end
end Go.Eng
