/-
  Matrices of pointers to whole numbers of any size, in memory. No condition.
-/
import Derived.Test.YtlnelldekejadaaGreatBgQ
import Derived.Test.YtlnelldekejadaaGreatTw5
import Derived.Test.YtlnelldekejadaaGreatSh
set_option linter.all false
open List renaming getD_eq_getElem?_getD→AA,getElem?_eq_getElem→AB,mem_cons_of_mem→AC,getElem?_set_ne→AD,getElem?_map→AE,getElem?_eq_none→AF,map_set→AG,mem_or_eq_of_mem_set→AH,length_set→AI,append_assoc→AJ,mem_append_left→AK,getElem?_set_self→AM,getElem_mem→AP,mem_cons_self→AQ,ext_getElem?→AT,getElem?_set→AU
open Int renaming toNat_natCast→AL
open Prod renaming fst→AN
open Nat renaming lt_or_ge→AO,sub_self→AV
open Option renaming getD_some→AR,bind_some→AS
namespace Go.Eng
open Go
structure BgD where
 r:Nat
 a:Option Addr
 n:Nat
 c:Nat
 z:Int
def Bk3 (r:Nat):Value := .pointer (some ⟨r,0,none⟩)
abbrev Rw:=Hd×List BgD
abbrev Mt:=List (List Int)
section
variable (I E tL tO:Nat)
def bgI (d:BgD):It:=bg I E d.r d.a d.n d.c d.z
def Bk4 (x:Rw):List It:=sl x.1.1 x.1.2.1 x.1.2.2 ((x.2.map BgD.r).map Bk3) tL::x.2.map (bgI I E)
def mxR:List Rw→List It
 | []=>[]
 | x::M=>Bk4 I E tL x++mxR M
def mxO (O:Hd) (M:List Rw):It:=sl O.1 O.2.1 O.2.2 ((M.map AN).map hdV) tO
end
def vals (M:List Rw):Mt:=M.map fun x=>x.2.map BgD.z
section
variable {I E tL tO:Nat}
theorem Ee2 {α β:Type} (f:α→β):∀ {l:List α} {j:Nat} {d:α},l[j]?=some d→(l.map f).Perm (f d::(l.eraseIdx j).map f)
 | [],_,_,h=>by simp at h
 | x::l,0,d,h=>by simp at h;subst h;exact .refl _
 | x::l,j+1,d,h=>by
   have:=Ee2 f (l:=l) (j:=j) (by simpa using h)
   exact (this.cons (f x)).trans (.swap _ _ _)
theorem Dm8 {α β:Type} (f:α→β) (d':α):∀ {l:List α} {j:Nat} {d:α},l[j]?=some d→((l.set j d').map f).Perm (f d'::(l.eraseIdx j).map f)
 | [],_,_,h=>by simp at h
 | x::l,0,d,h => .refl _
 | x::l,j+1,d,h=>by
   have:=Dm8 f d' (l:=l) (j:=j) (by simpa using h)
   exact (this.cons (f x)).trans (.swap _ _ _)
theorem Du9:∀ {M:List Rw} {i:Nat} {x:Rw},M[i]?=some x→(mxR I E tL M).Perm (Bk4 I E tL x++mxR I E tL (M.eraseIdx i))
 | [],_,_,h=>by simp at h
 | y::M,0,x,h=>by simp at h;subst h;exact .refl _
 | y::M,i+1,x,h=>by
   have:=Du9 (M:=M) (i:=i) (x:=x) (by simpa using h)
   have a:=this.append_left (Bk4 I E tL y)
   refine a.trans ?_
   show (Bk4 I E tL y++(Bk4 I E tL x++mxR I E tL (M.eraseIdx i))).Perm (Bk4 I E tL x++(Bk4 I E tL y++mxR I E tL (M.eraseIdx i)))
   rw [← AJ,← AJ]
   exact List.perm_append_comm.append_right _
theorem Cr7 {x':Rw}:∀ {M:List Rw} {i:Nat} {x:Rw},M[i]?=some x→(mxR I E tL (M.set i x')).Perm (Bk4 I E tL x'++mxR I E tL (M.eraseIdx i))
 | [],_,_,h=>by simp at h
 | y::M,0,x,h => .refl _
 | y::M,i+1,x,h=>by
   have:=Cr7 (x':=x') (M:=M) (i:=i) (x:=x) (by simpa using h)
   have a:=this.append_left (Bk4 I E tL y)
   refine a.trans ?_
   show (Bk4 I E tL y++(Bk4 I E tL x'++mxR I E tL (M.eraseIdx i))).Perm (Bk4 I E tL x'++(Bk4 I E tL y++mxR I E tL (M.eraseIdx i)))
   rw [← AJ,← AJ]
   exact List.perm_append_comm.append_right _
def mxZ (I E tL:Nat) (M:List Rw) (i j:Nat) (x:Rw):List It:=sl x.1.1 x.1.2.1 x.1.2.2 ((x.2.map BgD.r).map Bk3) tL::((x.2.eraseIdx j).map (bgI I E)++mxR I E tL (M.eraseIdx i))
theorem Ec5 {M:List Rw} {i j:Nat} {x:Rw} {d:BgD} (hx:M[i]?=some x) (hd:x.2[j]?=some d):(mxR I E tL M).Perm (bgI I E d::mxZ I E tL M i j x):=by
 refine (Du9 hx).trans ?_
 unfold Bk4 mxZ
 refine List.Perm.trans ?_ (.swap _ _ _)
 refine .cons _ ?_
 exact (Ee2 (bgI I E) hd).append_right _
theorem Ea9 {ds:List BgD} {j:Nat} {d d':BgD} (hd:ds[j]?=some d) (hr:d'.r=d.r):(ds.set j d').map BgD.r=ds.map BgD.r:=by
 rw [AG,hr]
 refine AT fun k=>?_
 rw [AU]
 split
 · rename_i e
   subst e
   have hj:j<ds.length:=by
    rcases AO j ds.length with h | h
    · exact h
    · rw [AF h] at hd;cases hd
   rw [if_pos (by simpa using hj),AE,hd];rfl
 · rfl
theorem Ga3 {M:List Rw} {i j:Nat} {x:Rw} {d d':BgD} (hx:M[i]?=some x) (hd:x.2[j]?=some d) (hr:d'.r=d.r):(bgI I E d'::mxZ I E tL M i j x).Perm (mxR I E tL (M.set i (x.1,x.2.set j d'))):=by
 refine List.Perm.trans ?_ (Cr7 (x':=(x.1,x.2.set j d')) hx).symm
 unfold Bk4 mxZ
 dsimp only
 rw [Ea9 hd hr]
 refine (List.Perm.swap _ _ _).trans (.cons _ ?_)
 exact (Dm8 (bgI I E) d' hd).symm.append_right _
theorem Ei7 {M:List Rw} {i:Nat} {x:Rw} (hx:M[i]?=some x) {e:It} (he:e∈Bk4 I E tL x):e∈mxR I E tL M:=(Du9 hx).mem_iff.2 (AK _ he)
theorem Ez8 {M:List Rw} {i j:Nat} {x:Rw} {d:BgD} (hx:M[i]?=some x) (hd:x.2[j]?=some d):bgI I E d∈mxR I E tL M:=(Ec5 hx hd).mem_iff.2 (AQ ..)
theorem Dw2 {α:Type} {l:List α} {i k:Nat} {x:α} (hk:k≠i) (h:l[k]?=some x):∃ q:Nat,(l.eraseIdx i)[q]?=some x:=by
 rcases AO k i with a | a
 · exact ⟨k,by rw [List.getElem?_eraseIdx_of_lt a];exact h⟩
 · refine ⟨k-1,?_⟩
   rw [List.getElem?_eraseIdx_of_ge (by omega),show k-1+1=k by omega];exact h
theorem Gl8 {M:List Rw} {i j a e:Nat} {x f:Rw} {b:BgD} (hx:M[i]?=some x) (c:M[a]?=some f) (g:f.2[e]?=some b) (hne:a≠i∨e≠j):bgI I E b∈mxZ I E tL M i j x:=by
 unfold mxZ
 refine AC _ ?_
 by_cases h:a=i
 · subst h
   rw [hx] at c;cases c
   obtain ⟨q,hq⟩:=Dw2 (i:=j) (by omega) g
   exact AK _ (List.mem_map.2 ⟨b,List.mem_of_getElem? hq,rfl⟩)
 · obtain ⟨q,hq⟩:=Dw2 (i:=i) h c
   exact List.mem_append_right _ (Ez8 hq g)
theorem Bf2 {M:List Rw} {i:Nat} {x:Rw} (hx:M[i]?=some x):(vals M)[i]?=some (x.2.map BgD.z):=by
 unfold vals
 rw [AE,hx];rfl
theorem An4 (M:List Rw):(vals M).length=M.length:=by unfold vals;simp
theorem Br4 {M:List Rw} {i:Nat} {x:Rw}:vals (M.set i x)=(vals M).set i (x.2.map BgD.z):=by unfold vals;rw [AG]
end
end Go.Eng
/-
  Matrices of pointers to whole numbers of any size: reading and writing. No condition.
-/
namespace Go.Eng
open Go
theorem As0 {σ:Type} {body:σ→(σ→World→Prop)→World→Prop} (I:Nat→σ→World→Prop) (n:Nat) {s0:σ} {w:World} (a:I 0 s0 w)
 (step:∀ k s w (X:σ→World→Prop),k<n→I k s w→(∀ s' w',I (k+1) s' w'→X s' w')→body s X w)
 (stop:∀ s w (X:σ→World→Prop),I n s w→body s X w):Ac3 body s0 w:=by
 intro X hX
 have key:∀ m k s w,k+m=n→I k s w→X s w:=by
  intro m
  induction m with
  | zero=>
   intro k s w hk hI;obtain rfl:k=n:=by omega
   exact hX _ _ (stop s w X hI)
  | succ m ih=>intro k s w hk hI;exact hX _ _ (step k s w X (by omega) hI fun s' w' h=>ih (k+1) s' w' (by omega) h)
 exact key n 0 s0 w (by omega) a
def An9 (I E tL tO tR q:Nat) (O:Hd) (low:Value) (M:List Rw) (L:List It):List It:=cl q [.slice O.1 O.2.1 O.2.2,low] tR::mxO tO O M::(mxR I E tL M++L)
section
variable {I E tL tO tR q:Nat} {O:Hd} {low:Value} {M:List Rw} {L:List It} {w0 w:World} {i j:Nat} {x:Rw} {d:BgD}
theorem Ho.mxHd (hS:Ho w0 w (An9 I E tL tO tR q O low M L)):w.cell? ⟨q,0,Option.none⟩=some (.slice O.1 O.2.1 O.2.2):=hS.cel (L:=An9 I E tL tO tR q O low M L) (i:=0) (AQ ..) rfl
theorem Ho.mxOr (hS:Ho w0 w (An9 I E tL tO tR q O low M L)):rdA ((M.map AN).map hdV) O.1 O.2.1 O.2.2 w:=slA.rd (hS.hold _ (AC _ (AQ ..)))
theorem Ho.mxLen (hS:Ho w0 w (An9 I E tL tO tR q O low M L)):O.2.1=M.length:=by
 have:=hS.mxOr.len
 simpa using this
theorem Ho.mxRr (hS:Ho w0 w (An9 I E tL tO tR q O low M L)) (hx:M[i]?=some x):rdA ((x.2.map BgD.r).map Bk3) x.1.1 x.1.2.1 x.1.2.2 w:=
 slA.rd (t:=tL) (hS.hold _ (AC _ (AC _ (AK _ (Ei7 hx (AQ ..))))))
theorem Ho.mxBg (hx:M[i]?=some x) (hd:x.2[j]?=some d):bgI I E d∈An9 I E tL tO tR q O low M L:=AC _ (AC _ (AK _ (Ez8 hx hd)))
theorem Ent.mxBg (hx:M[i]?=some x) (hd:x.2[j]?=some d):Ent (An9 I E tL tO tR q O low M L) (bgR I d.r d.a d.n d.c d.z):=Ent.bg (Ho.mxBg hx hd)
theorem Dg7 {ii:Int} {K:Addr→Option Addr→Nat→Nat→Addr→Option Addr→Nat→Nat→Prop} (hS:Ho w0 w (An9 I E tL tO tR q O low M L)) (hx:M[i]?=some x) (hi:ii=(i:Int))
 (hK:∀ a:Addr,O.1=some a→K ⟨q,0,none⟩ O.1 O.2.1 O.2.2 a x.1.1 x.1.2.1 x.1.2.2) :
 Ab6 (some ⟨q,0,none⟩) fun f=>∃ (c:Option Addr) (e g:Nat),w.cell? f=some (.slice c e g)∧(0:Int)≤ii∧ii<(e:Nat)∧Ab6 c fun k=>∃ (l:Option Addr) (m n:Nat),w.cell? (k.add (ii.toNat*1))=some (.slice l m n)∧K f c e g k l m n:=by
 subst hi
 refine Ac0 ⟨_,_,_,hS.mxHd,?_⟩
 have hg:(M.map AN)[((i:Nat):Int).toNat]?=some x.1:=by
  rw [AL,AE,hx];rfl
 have hl:((i:Nat):Int).toNat<(M.map AN).length:=by
  rcases AO ((i:Nat):Int).toNat (M.map AN).length with h | h
  · exact h
  · rw [AF h] at hg;cases hg
 refine Ad6 hS.mxOr hg (by omega) hl ?_
 intro b hb
 exact ⟨_,_,_,Bv7 hS.mxOr hb hg,hK b hb⟩
theorem Be9 {ii jj:Int} {K:Addr→Option Addr→Nat→Nat→Addr→Option Addr→Nat→Nat→Addr→Option Addr→Prop} (hS:Ho w0 w (An9 I E tL tO tR q O low M L)) (hx:M[i]?=some x) (hd:x.2[j]?=some d) (hi:ii=(i:Int)) (hj:jj=(j:Int))
 (hK:∀ a b:Addr,O.1=some a→x.1.1=some b→K ⟨q,0,none⟩ O.1 O.2.1 O.2.2 a x.1.1 x.1.2.1 x.1.2.2 b (some ⟨d.r,0,none⟩)) :
 Ab6 (some ⟨q,0,none⟩) fun k=>∃ (c:Option Addr) (e l:Nat),w.cell? k=some (.slice c e l)∧(0:Int)≤ii∧ii<(e:Nat)∧Ab6 c fun m=>∃ (f:Option Addr) (g n:Nat),w.cell? (m.add (ii.toNat*1))=some (.slice f g n)∧(0:Int)≤jj∧jj<(g:Nat)∧Ab6 f fun o=>∃ p:Option Addr,w.cell? (o.add (jj.toNat*1))=some (.pointer p)∧K k c e l m f g n o p:=by
 refine Dg7 hS hx hi fun a ha=>?_
 subst hj
 have hg:(x.2.map BgD.r)[((j:Nat):Int).toNat]?=some d.r:=by
  rw [AL,AE,hd];rfl
 have hl:((j:Nat):Int).toNat<(x.2.map BgD.r).length:=by
  rcases AO ((j:Nat):Int).toNat (x.2.map BgD.r).length with h | h
  · exact h
  · rw [AF h] at hg;cases hg
 refine Ad6 (hS.mxRr hx) hg (by omega) hl ?_
 intro b hb
 exact ⟨_,Ab8 (enc:=Bk3) (hS.mxRr hx) hb hg,hK a b ha hb⟩
end
def ent (V:Mt) (i j:Nat):Int:=(V.getD i []).getD j 0
def Cd5 (V:Mt) (i j:Nat) (x:Int):Mt:=V.set i ((V.getD i []).set j x)
def Sq (n:Nat) (V:Mt):Prop:=V.length=n∧∀ l∈V,l.length=n
theorem El9 {n:Nat} {M:List Rw} (h:Sq n (vals M)) {i:Nat} (hi:i<n):∃ x,M[i]?=some x∧x.2.length=n:=by
 have hl:i<M.length:=by rw [← An4,h.1];exact hi
 refine ⟨M[i],AB hl,?_⟩
 have:=h.2 (M[i].2.map BgD.z) (by unfold vals;exact List.mem_map.2 ⟨M[i],AP hl,rfl⟩)
 simpa using this
theorem Ax5 {n:Nat} {M:List Rw} (h:Sq n (vals M)) {i j:Nat} (hi:i<n) (hj:j<n):∃ x d,M[i]?=some x∧x.2[j]?=some d∧d.z=ent (vals M) i j∧x.2.length=n:=by
 obtain ⟨x,hx,hl⟩:=El9 h hi
 refine ⟨x,x.2[j],hx,AB (by omega),?_,hl⟩
 unfold ent
 rw [AA (l:=vals M),Bf2 hx,AR,AA,AE,AB (by omega)]
 rfl
theorem Aq4 {M:List Rw} {i j:Nat} {x:Rw} {d:BgD} (hx:M[i]?=some x):vals (M.set i (x.1,x.2.set j d))=Cd5 (vals M) i j d.z:=by
 unfold Cd5
 rw [Br4,AA,Bf2 hx,AR]
 dsimp only
 rw [AG]
theorem At3 {n:Nat} {V:Mt} (h:Sq n V) {i j:Nat} {y:Int} (hi:i<n):Sq n (Cd5 V i j y):=by
 unfold Cd5
 refine ⟨by rw [AI];exact h.1,fun l hl=>?_⟩
 rcases AH hl with a | rfl
 · exact h.2 l a
 · rw [AI]
   have hl:i<V.length:=by rw [h.1];exact hi
   rw [AA,AB hl]
   exact h.2 _ (AP hl)
theorem Br1 {n:Nat} {V:Mt} (h:Sq n V) {i j a b:Nat} {y:Int} (hi:i<n) (hj:j<n):ent (Cd5 V i j y) a b=if a=i∧b=j then y else ent V a b:=by
 unfold ent Cd5
 have hl:i<V.length:=by rw [h.1];exact hi
 have hll:(V.getD i []).length=n:=by
  rw [AA,AB hl]
  exact h.2 _ (AP hl)
 by_cases c:a=i
 · subst c
   rw [AA (l:=V.set _ _),AM hl,AR]
   by_cases e:b=j
   · subst e
     rw [if_pos ⟨rfl,rfl⟩,AA,AM (by omega),AR]
   · rw [if_neg (by omega),AA,AD (by omega),← AA]
 · rw [if_neg (by omega),AA (l:=V.set _ _),AD (by omega),← AA]
end Go.Eng
/-
  inertia's rows: the search for a place that is not nought. No condition.
-/
set_option maxRecDepth 100000
set_option maxHeartbeats 4000000
namespace Go.Eng
open Go
def Bo6 (V:Mt) (i:Nat):Nat→Nat→Option Nat
 | _,0=>none
 | j,k+1=>if ent V i j≠0 then some j else Bo6 V i (j+1) k
def Bm4 (V:Mt) (at_:Nat):Nat→Nat→Option (Nat×Nat)
 | _,0=>none
 | i,k+1=>match Bo6 V i at_ (i-at_) with
   | some j=>some (i,j)
   | none=>Bm4 V at_ (i+1) k
def By3 (V:Mt):Nat→Nat→Option Nat
 | _,0=>none
 | i,k+1=>if ent V i i≠0 then some i else By3 V (i+1) k
theorem Bk9 (V:Mt) (i j k:Nat):Bo6 V i j (k+1)=if ent V i j≠0 then some j else Bo6 V i (j+1) k:=rfl
theorem Bc6 (V:Mt) (at_ i k:Nat):Bm4 V at_ i (k+1)=match Bo6 V i at_ (i-at_) with
 | some j=>some (i,j)
 | none=>Bm4 V at_ (i+1) k:=rfl
theorem Bw2 (V:Mt) (i k:Nat):By3 V i (k+1)=if ent V i i≠0 then some i else By3 V (i+1) k:=rfl
def Bw1 (n:Nat) (V:Mt) (at_:Nat):Option (Nat×Nat):=
 match By3 V at_ (n-at_) with
 | some i=>some (i,i)
 | none=>Bm4 V at_ at_ (n-at_)
def plV:Option (Nat×Nat)→Int×Int
 | some (i,j)=>((i:Int),(j:Int))
 | none=>(-1, -1)
theorem Fx0 (z:Int):((if z<0 then (-1:Int) else if z=0 then 0 else 1) != 0)=decide (z≠0):=by
 rcases Int.lt_trichotomy z 0 with h | h | h
 · rw [if_pos h,decide_eq_true (by omega)];rfl
 · subst h;rfl
 · rw [if_neg (by omega),if_neg (by omega),decide_eq_true (by omega)];rfl
abbrev MQ (N:Nums) (q:Nat) (O:Hd) (low:Value) (M:List Rw) (L:List It):List It:=An9 N.Hr0 N.Hq9 N.Ho7 N.Hl3 N.Hi4 q O low M L
section
variable {N:Nums} {P:Program} (H:AllOk N P)
include H
theorem Gd1 {w0 w:World} {L:List It} {q:Nat} {O:Hd} {low:Value} {M:List Rw} {n at_:Nat} (hq:Sq n (vals M)) (hn:n≤1073741824) (ha:at_≤n)
 (hS:Ho w0 w (MQ N q O low M L)) {K:Value→World→Prop}
 (hK:∀ f:World,Ho w0 f (MQ N q O low M L)→K (.tuple #[.int .i64 (plV (Bw1 n (vals M) at_)).1,.int .i64 (plV (Bw1 n (vals M) at_)).2]) f) :
 Aa1 P N.Hg5 #[.pointer (some ⟨q,0,none⟩),.int .i64 (at_:Int)] w K:=by
 refine H.p_inertia_rows_find _ _ w _ ?_
 unfold Az4
 have hMl:M.length=n:=by rw [← An4];exact hq.1
 refine Aa9 (fun s w=>s=((plV (Bm4 (vals M) at_ at_ (n-at_))).1,(plV (Bm4 (vals M) at_ at_ (n-at_))).2,())∧Ho w0 w (MQ N q O low M L)) (fun J hJ=>?_) ?_
 · refine As0 (fun k s w=>s=(-1, -1,((at_+k:Nat):Int),())∧Bm4 (vals M) at_ at_ (n-at_)=Bm4 (vals M) at_ (at_+k) (n-at_-k)∧Ho w0 w (MQ N q O low M L)) (n-at_) ⟨by simp,rfl,hS⟩ ?_ ?_
   · rintro k s w X hk ⟨rfl,he,hS⟩ hX
     dsimp only
     refine Ac0 ⟨_,_,_,hS.mxHd,?_⟩
     refine Ab7 (fun _=>?_) (fun hc=>?_)
     rotate_left
     · rw [hS.mxLen,hMl] at hc;simp at hc;omega
     refine Aa9 (fun s w=>s=(-1, -1,())∧Bo6 (vals M) (at_+k) at_ k=none∧Ho w0 w (MQ N q O low M L)) (fun h hJ2=>?_) ?_
     · refine As0 (fun m s w=>s=(-1, -1,((at_+m:Nat):Int),())∧Bo6 (vals M) (at_+k) at_ k=Bo6 (vals M) (at_+k) (at_+m) (k-m)∧Ho w0 w (MQ N q O low M L)) k ⟨by simp,rfl,hS⟩ ?_ ?_
       · rintro m s w g hm ⟨rfl,c,hS⟩ hX2
         dsimp only
         rw [show k-m=(k-(m+1))+1 by omega] at c
         refine Ab7 (fun _=>?_) (fun hc=>?_)
         rotate_left
         · simp at hc;omega
         obtain ⟨x,d,hx,hd,hz,_⟩:=Ax5 hq (i:=at_+k) (j:=at_+m) (by omega) (by omega)
         refine Be9 hS hx hd rfl rfl ?_
         intro a b _ _
         refine Ao5 H hS (Ent.mxBg hx hd) rfl ?_
         intro f hS1
         refine ⟨_,rfl,?_⟩
         rw [Fx0,hz]
         rw [Bk9] at c
         refine Ab7 (fun hc=>?_) (fun hc=>?_)
         · rw [if_pos (by simpa using hc)] at c
           refine hJ _ _ ⟨?_,hS1⟩
           rw [he,show n-at_-k=(n-at_-k-1)+1 by omega,Bc6,show at_+k-at_=k by omega,c]
           rfl
         · rw [if_neg (by simpa using hc)] at c
           refine hX2 _ _ ⟨?_,c,hS1⟩
           rw [wrU (by omega)];rfl
       · rintro s w g ⟨rfl,c,hS⟩
         dsimp only
         refine Ab7 (fun hc=>?_) (fun _=>?_)
         · simp at hc
         rw [AV] at c
         exact hJ2 _ _ ⟨rfl,c,hS⟩
     · rintro s w ⟨rfl,c,hS⟩
       dsimp only
       refine hX _ _ ⟨?_,?_,hS⟩
       · rw [wrU (by omega)];rfl
       · rw [he,show n-at_-k=(n-at_-(k+1))+1 by omega,Bc6,show at_+k-at_=k by omega,c]
         rfl
   · rintro s w X ⟨rfl,he,hS⟩
     dsimp only
     refine Ac0 ⟨_,_,_,hS.mxHd,?_⟩
     refine Ab7 (fun hc=>?_) (fun _=>?_)
     · rw [hS.mxLen,hMl] at hc;simp at hc;omega
     rw [AV] at he
     exact hJ _ _ ⟨by rw [he];rfl,hS⟩
 · rintro s w ⟨rfl,hS⟩
   dsimp only
   refine Aa9 (fun s w=>By3 (vals M) at_ (n-at_)=none∧Ho w0 w (MQ N q O low M L)) (fun J hJ=>?_) ?_
   · refine As0 (fun k s w=>s=(((at_+k:Nat):Int),())∧By3 (vals M) at_ (n-at_)=By3 (vals M) (at_+k) (n-at_-k)∧Ho w0 w (MQ N q O low M L)) (n-at_) ⟨by simp,rfl,hS⟩ ?_ ?_
     · rintro k s w X hk ⟨rfl,he,hS⟩ hX
       dsimp only
       refine Ac0 ⟨_,_,_,hS.mxHd,?_⟩
       refine Ab7 (fun _=>?_) (fun hc=>?_)
       rotate_left
       · rw [hS.mxLen,hMl] at hc;simp at hc;omega
       rw [show n-at_-k=(n-at_-(k+1))+1 by omega] at he
       obtain ⟨x,d,hx,hd,hz,_⟩:=Ax5 hq (i:=at_+k) (j:=at_+k) (by omega) (by omega)
       refine Be9 hS hx hd rfl rfl ?_
       intro a b _ _
       refine Ao5 H hS (Ent.mxBg hx hd) rfl ?_
       intro f hS1
       refine ⟨_,rfl,?_⟩
       rw [Fx0,hz]
       rw [Bw2] at he
       refine Ab7 (fun hc=>?_) (fun hc=>?_)
       · rw [if_pos (by simpa using hc)] at he
         have e:Bw1 n (vals M) at_=some (at_+k,at_+k):=by unfold Bw1;rw [he]
         have:=hK f hS1
         rw [e] at this
         exact this
       · rw [if_neg (by simpa using hc)] at he
         refine hX _ _ ⟨?_,?_,hS1⟩
         · rw [wrU (by omega)];rfl
         · exact he
     · rintro s w X ⟨rfl,he,hS⟩
       dsimp only
       refine Ac0 ⟨_,_,_,hS.mxHd,?_⟩
       refine Ab7 (fun hc=>?_) (fun _=>?_)
       · rw [hS.mxLen,hMl] at hc;simp at hc;omega
       rw [AV] at he
       exact hJ _ _ ⟨he,hS⟩
   · rintro s w ⟨he,hS⟩
     have e:Bw1 n (vals M) at_=Bm4 (vals M) at_ at_ (n-at_):=by unfold Bw1;rw [he]
     have:=hK w hS
     rw [e] at this
     exact this
end
end Go.Eng
/-
  Matrices of pointers: numbers changed in place, rows and columns exchanged. No condition.
-/
namespace Go.Eng
open Go
section
variable {I E tL tO tR q:Nat} {O:Hd} {low:Value} {M:List Rw} {L:List It} {w0 w:World} {i j:Nat} {x:Rw} {d d':BgD}
theorem Cb3 (hx:M[i]?=some x) {ds:List BgD}:(M.set i (x.1,ds)).map AN=M.map AN:=by
 rw [AG]
 refine AT fun k=>?_
 rw [AU]
 split
 · rename_i e
   subst e
   have hj:i<M.length:=by
    rcases AO i M.length with h | h
    · exact h
    · rw [AF h] at hx;cases hx
   rw [if_pos (by simpa using hj),AE,hx];rfl
 · rfl
def Fe7 (I E tL tO tR q:Nat) (O:Hd) (low:Value) (M:List Rw) (L:List It) (i j:Nat) (x:Rw):List It:=cl q [.slice O.1 O.2.1 O.2.2,low] tR::mxO tO O M::(mxZ I E tL M i j x++L)
theorem Ho.mxOut (hS:Ho w0 w (An9 I E tL tO tR q O low M L)) (hx:M[i]?=some x) (hd:x.2[j]?=some d):Ho w0 w (bg I E d.r d.a d.n d.c d.z::Fe7 I E tL tO tR q O low M L i j x):=by
 refine hS.perm ?_
 unfold An9 Fe7
 refine (((Ec5 hx hd).append_right L).cons _ |>.cons _).trans ?_
 exact ((List.Perm.swap _ _ _).cons _).trans (.swap _ _ _)
theorem Ho.mxIn (hx:M[i]?=some x) (hd:x.2[j]?=some d) (hr:d'.r=d.r) (hS:Ho w0 w (bg I E d'.r d'.a d'.n d'.c d'.z::Fe7 I E tL tO tR q O low M L i j x)):Ho w0 w (An9 I E tL tO tR q O low (M.set i (x.1,x.2.set j d')) L):=by
 refine hS.perm ?_
 unfold An9 Fe7
 have e:mxO tO O (M.set i (x.1,x.2.set j d'))=mxO tO O M:=by unfold mxO;rw [Cb3 hx]
 rw [e]
 refine List.Perm.trans ?_ ((((Ga3 (I:=I) (E:=E) (tL:=tL) hx hd hr).append_right L).cons _).cons _)
 exact (List.Perm.swap _ _ _).trans ((List.Perm.swap _ _ _).cons _)
theorem Dz3 {e f:Nat} {g:Rw} {b:BgD} (hx:M[i]?=some x) (h:M[e]?=some g) (k:g.2[f]?=some b) (hne:e≠i∨f≠j):Ent (Fe7 I E tL tO tR q O low M L i j x) (bgR I b.r b.a b.n b.c b.z):=
 Ent.bg (AC _ (AC _ (AK _ (Gl8 hx h k hne))))
theorem Fr8 {M':List Rw} (h:M.Perm M'):(mxR I E tL M).Perm (mxR I E tL M'):=by
 induction h with
 | nil=>exact .refl _
 | cons x _ ih=>exact ih.append_left _
 | swap x y l=>
   show (Bk4 I E tL y++(Bk4 I E tL x++mxR I E tL l)).Perm (Bk4 I E tL x++(Bk4 I E tL y++mxR I E tL l))
   rw [← AJ,← AJ]
   exact List.perm_append_comm.append_right _
 | trans _ _ a b=>exact a.trans b
theorem Dw4 {α:Type} {l:List α} {a b:Nat} {x y:α} (ha:l[a]?=some x) (hb:l[b]?=some y):((l.set a y).set b x).Perm l:=by
 obtain ⟨c,rfl⟩:=List.getElem?_eq_some_iff.1 ha
 obtain ⟨e,rfl⟩:=List.getElem?_eq_some_iff.1 hb
 exact List.set_set_perm c e
theorem Ho.mxHeads (hS:Ho w0 w (An9 I E tL tO tR q O low M L)):Ho w0 w (sl O.1 O.2.1 O.2.2 ((M.map AN).map hdV) tO::(cl q [.slice O.1 O.2.1 O.2.2,low] tR::(mxR I E tL M++L))):=hS.perm (.swap _ _ _)
theorem Ho.mxRows {a b:Nat} {x y:Rw} (ha:M[a]?=some x) (hb:M[b]?=some y) (hS:Ho w0 w (sl O.1 O.2.1 O.2.2 (((((M.map AN).set a y.1).set b x.1)).map hdV) tO::(cl q [.slice O.1 O.2.1 O.2.2,low] tR::(mxR I E tL M++L)))):Ho w0 w (An9 I E tL tO tR q O low ((M.set a y).set b x) L):=by
 refine hS.perm ?_
 unfold An9 mxO
 have c:((M.set a y).set b x).map AN=((M.map AN).set a y.1).set b x.1:=by rw [AG,AG]
 rw [c]
 refine (List.Perm.swap _ _ _).trans (.cons _ (.cons _ ?_))
 exact (Fr8 (Dw4 ha hb)).symm.append_right L
theorem Ho.mxRow (hS:Ho w0 w (An9 I E tL tO tR q O low M L)) (hx:M[i]?=some x):Ho w0 w (sl x.1.1 x.1.2.1 x.1.2.2 ((x.2.map BgD.r).map Bk3) tL::(cl q [.slice O.1 O.2.1 O.2.2,low] tR::mxO tO O M::((x.2.map (bgI I E)++mxR I E tL (M.eraseIdx i))++L))):=by
 refine hS.perm ?_
 unfold An9
 refine ((((Du9 hx).append_right L).cons _).cons _).trans ?_
 exact ((List.Perm.swap _ _ _).cons _).trans (.swap _ _ _)
theorem Ho.mxCols {a b:Nat} {u v:BgD} (hx:M[i]?=some x) (ha:x.2[a]?=some u) (hb:x.2[b]?=some v) (hS:Ho w0 w (sl x.1.1 x.1.2.1 x.1.2.2 ((((x.2.map BgD.r).set a v.r).set b u.r).map Bk3) tL::(cl q [.slice O.1 O.2.1 O.2.2,low] tR::mxO tO O M::((x.2.map (bgI I E)++mxR I E tL (M.eraseIdx i))++L)))):Ho w0 w (An9 I E tL tO tR q O low (M.set i (x.1,(x.2.set a v).set b u)) L):=by
 refine hS.perm ?_
 unfold An9
 have e:mxO tO O (M.set i (x.1,(x.2.set a v).set b u))=mxO tO O M:=by unfold mxO;rw [Cb3 hx]
 rw [e]
 refine List.Perm.trans ?_ ((((Cr7 (I:=I) (E:=E) (tL:=tL) (x':=(x.1,(x.2.set a v).set b u)) hx).symm.append_right L).cons _).cons _)
 refine List.Perm.trans ((List.Perm.swap _ _ _).trans ((List.Perm.swap _ _ _).cons _)) (.cons _ (.cons _ ?_))
 unfold Bk4
 dsimp only
 have c:((x.2.set a v).set b u).map BgD.r=((x.2.map BgD.r).set a v.r).set b u.r:=by rw [AG,AG]
 rw [c]
 refine List.Perm.cons _ ?_
 refine List.Perm.append_right L ?_
 refine List.Perm.append_right _ ?_
 exact ((Dw4 ha hb).symm.map _)
theorem Ho.mxNew (hS:Ho w0 w (sl x.1.1 x.1.2.1 x.1.2.2 (((x.2.map BgD.r).set j d'.r).map Bk3) tL::bg I E d'.r d'.a d'.n d'.c d'.z::(cl q [.slice O.1 O.2.1 O.2.2,low] tR::mxO tO O M::((x.2.map (bgI I E)++mxR I E tL (M.eraseIdx i))++L)))) (hx:M[i]?=some x) (hd:x.2[j]?=some d):Ho w0 w (An9 I E tL tO tR q O low (M.set i (x.1,x.2.set j d')) L):=by
 have f:Ho w0 w (sl x.1.1 x.1.2.1 x.1.2.2 (((x.2.map BgD.r).set j d'.r).map Bk3) tL::(cl q [.slice O.1 O.2.1 O.2.2,low] tR::mxO tO O M::((((x.2.set j d').map (bgI I E))++mxR I E tL (M.eraseIdx i))++L))):=by
  have g:Ho w0 w (bgI I E d::(sl x.1.1 x.1.2.1 x.1.2.2 (((x.2.map BgD.r).set j d'.r).map Bk3) tL::(cl q [.slice O.1 O.2.1 O.2.2,low] tR::mxO tO O M::((((x.2.set j d').map (bgI I E))++mxR I E tL (M.eraseIdx i))++L)))):=by
   refine hS.perm ?_
   have h:=Ee2 (bgI I E) hd
   have k:=Dm8 (bgI I E) d' hd
   -- d' :: ds ~ d :: ds'
   have l:(bgI I E d'::x.2.map (bgI I E)).Perm (bgI I E d::(x.2.set j d').map (bgI I E)):=
    ((h.cons _).trans (.swap _ _ _)).trans (k.symm.cons _)
   have m:=(l.append_right (mxR I E tL (M.eraseIdx i))).append_right L
   -- the two ahead
   have p:∀ (s c o b:It) (X:List It),(s::b::c::o::X).Perm (s::c::o::b::X):=fun s c o b X => .cons _ ((List.Perm.swap _ _ _).trans ((List.Perm.swap _ _ _).cons _))
   have t:∀ (s c o b:It) (X:List It),(s::c::o::b::X).Perm (b::s::c::o::X):=fun s c o b X=>(((List.Perm.swap _ _ _).cons _).cons _).trans (((List.Perm.swap _ _ _).cons _).trans (.swap _ _ _))
   refine (p _ _ _ _ _).trans (List.Perm.trans ?_ (t _ _ _ _ _))
   exact ((m.cons _).cons _).cons _
  exact g.drop
 refine f.perm ?_
 unfold An9
 have e:mxO tO O (M.set i (x.1,x.2.set j d'))=mxO tO O M:=by unfold mxO;rw [Cb3 hx]
 rw [e]
 refine List.Perm.trans ?_ ((((Cr7 (I:=I) (E:=E) (tL:=tL) (x':=(x.1,x.2.set j d')) hx).symm.append_right L).cons _).cons _)
 refine List.Perm.trans ((List.Perm.swap _ _ _).trans ((List.Perm.swap _ _ _).cons _)) (.cons _ (.cons _ ?_))
 unfold Bk4
 dsimp only
 have u:(x.2.set j d').map BgD.r=(x.2.map BgD.r).set j d'.r:=by rw [AG]
 rw [u]
 exact .refl _
end
def pt (M:List Rw) (i j:Nat):Option Nat:=(M[i]?).bind fun x=>(x.2[j]?).map BgD.r
theorem Fy9 {M:List Rw} {i j:Nat} {x:Rw} {d d':BgD} (hx:M[i]?=some x) (hd:x.2[j]?=some d) (hr:d'.r=d.r) (a b:Nat):pt (M.set i (x.1,x.2.set j d')) a b=pt M a b:=by
 unfold pt
 by_cases h:a=i
 · subst h
   have hj:a<M.length:=by
    rcases AO a M.length with h | h
    · exact h
    · rw [AF h] at hx;cases hx
   rw [AM hj,hx,AS,AS,← AE,← AE,Ea9 hd hr]
 · rw [AD (by omega)]
end Go.Eng
/-
  inertia's rows: the pivot. No condition.
-/
namespace Go.Eng
open Go
def Al1 {α:Type} (f:Nat→α→Option α):Nat→α→Option α
 | 0,a=>some a
 | n+1,a=>(Al1 f n a).bind (f n)
theorem Ea0 {α:Type} {f:Nat→α→Option α} {a:α}:∀ {n:Nat} {b:α},Al1 f n a=some b→∀ k,k≤n→∃ c,Al1 f k a=some c
 | 0,b,h,k,hk=>by
  obtain rfl:k=0:=by omega
  exact ⟨a,rfl⟩
 | n+1,b,h,k,hk=>by
   obtain ⟨c,g,l⟩:=bnd (show (Al1 f n a).bind (f n)=some b from h)
   by_cases e:k=n+1
   · subst e;exact ⟨b,h⟩
   · exact Ea0 g k (by omega)
theorem Ar5 {α:Type} {f:Nat→α→Option α} {a:α} {n:Nat} {b:α} (h:Al1 f n a=some b) {k:Nat} (hk:k<n) {c:α} (hc:Al1 f k a=some c):∃ d,f k c=some d∧Al1 f (k+1) a=some d:=by
 obtain ⟨d,hd⟩:=Ea0 h (k+1) hk
 refine ⟨d,?_,hd⟩
 have:(Al1 f k a).bind (f k)=some d:=hd
 rw [hc] at this
 exact this
def Dm5 (n row col:Nat):Mt→Option Mt:=Al1 (fun k V=>(Au1 (ent V row k) (ent V col k)).bind fun y=>some (Cd5 V row k y)) n
def Dl6 (n row col:Nat):Mt→Option Mt:=Al1 (fun k V=>(Au1 (ent V k row) (ent V k col)).bind fun y=>some (Cd5 V k row y)) n
def swR (V:Mt) (a b:Nat):Mt:=(V.set a (V.getD b [])).set b (V.getD a [])
def swL (l:List Int) (a b:Nat):List Int:=(l.set a (l.getD b 0)).set b (l.getD a 0)
def swC (a b:Nat):Nat→Mt→Mt
 | 0,V=>V
 | k+1,V=>(swC a b k V).set k (swL ((swC a b k V).getD k []) a b)
def Bp2 (n:Nat) (V:Mt) (at_:Nat):Option (Bool×Mt):=
 match Bw1 n V at_ with
 | none=>some (false,V)
 | some (row,col)=>(cond (decide (row≠col)) ((Dm5 n row col V).bind (Dl6 n row col)) (some V)).bind fun V=>some (true,swC at_ row n (swR V at_ row))
theorem Dw0 {V:Mt} {i:Nat}:∀ {k j p:Nat},Bo6 V i j k=some p→j≤p∧p<j+k
 | 0,_,_,h=>by cases h
 | k+1,j,p,h=>by
   rw [Bk9] at h
   split at h
   · obtain rfl:=Option.some.inj h;omega
   · have:=Dw0 h;omega
theorem Cs4 {V:Mt} {at_:Nat}:∀ {k i p q:Nat},at_≤i→Bm4 V at_ i k=some (p,q)→at_≤q∧q<p∧i≤p∧p<i+k
 | 0,_,_,_,_,h=>by cases h
 | k+1,i,p,q,hi,h=>by
   rw [Bc6] at h
   split at h
   · rename_i j hj
     have:=Dw0 hj
     cases h
     omega
   · have:=Cs4 (by omega) h;omega
theorem Cp6 {V:Mt}:∀ {k i p:Nat},By3 V i k=some p→i≤p∧p<i+k∧ent V p p≠0
 | 0,_,_,h=>by cases h
 | k+1,i,p,h=>by
   rw [Bw2] at h
   split at h
   · rename_i a;obtain rfl:=Option.some.inj h;exact ⟨by omega,by omega,a⟩
   · have:=Cp6 h;exact ⟨by omega,by omega,this.2.2⟩
theorem Cn8 {n:Nat} {V:Mt} {at_ p q:Nat} (ha:at_≤n) (h:Bw1 n V at_=some (p,q)):at_≤q∧q≤p∧p<n:=by
 unfold Bw1 at h
 split at h
 · rename_i i hi
   have:=Cp6 hi
   cases h
   omega
 · have:=Cs4 (Nat.le_refl _) h;omega
theorem Br3 {α β:Type} (f:α→β) {l:List α} {i:Nat} {x:α} (h:l[i]?=some x) (d:β):(l.map f).getD i d=f x:=by
 rw [AA,AE,h];rfl
theorem By7 {α:Type} {l:List α} {i:Nat} {x:α} (h:l[i]?=some x):i<l.length:=by
 rcases AO i l.length with a | a
 · exact a
 · rw [AF a] at h;cases h
theorem Fs1 {M:List Rw} {a b:Nat} {x y:Rw} (ha:M[a]?=some x) (hb:M[b]?=some y):vals ((M.set a y).set b x)=swR (vals M) a b:=by
 unfold swR
 rw [Br4,Br4]
 unfold vals
 rw [Br3 (fun x:Rw=>x.2.map BgD.z) ha,Br3 (fun x:Rw=>x.2.map BgD.z) hb]
theorem Dp8 {n:Nat} {V:Mt} (h:Sq n V) {a b:Nat} (ha:a<n) (hb:b<n):Sq n (swR V a b):=by
 unfold swR
 have hg:∀ i,i<n→(V.getD i []).length=n:=fun i hi=>by
  have hl:i<V.length:=by rw [h.1];exact hi
  rw [AA,AB hl]
  exact h.2 _ (AP hl)
 refine ⟨by rw [AI,AI];exact h.1,fun l hl=>?_⟩
 rcases AH hl with c | rfl
 · rcases AH c with e | rfl
   · exact h.2 l e
   · exact hg b hb
 · exact hg a ha
theorem Fx8 {n:Nat} {V:Mt} (h:Sq n V) {i:Nat} {l:List Int} (hl:l.length=n):Sq n (V.set i l):=by
 refine ⟨by rw [AI];exact h.1,fun m hm=>?_⟩
 rcases AH hm with a | rfl
 · exact h.2 m a
 · exact hl
theorem Ec9 {n:Nat} {V:Mt} (h:Sq n V) {i:Nat} (hi:i<n):(V.getD i []).length=n:=by
 have hl:i<V.length:=by rw [h.1];exact hi
 rw [AA,AB hl]
 exact h.2 _ (AP hl)
theorem Eo4 {n:Nat} {V:Mt} (h:Sq n V) {a b:Nat}:∀ {k:Nat},k≤n→Sq n (swC a b k V)
 | 0,_=>h
 | k+1,hk=>by
   have ih:=Eo4 h (a:=a) (b:=b) (k:=k) (by omega)
   refine Fx8 ih ?_
   unfold swL
   rw [AI,AI]
   exact Ec9 ih (by omega)
section
variable {N:Nums} {P:Program} (H:AllOk N P)
include H
theorem Fo6 {w0 w:World} {L:List It} {q:Nat} {O:Hd} {low:Value} {M:List Rw} {n at_:Nat} {b:Bool} {V':Mt} (hq:Sq n (vals M)) (hn:n≤1073741824) (ha:at_<n) (hx:Bp2 n (vals M) at_=some (b,V'))
 (hS:Ho w0 w (MQ N q O low M L)) {K:Value→World→Prop}
 (hK:∀ (M':List Rw) (w1:World),vals M'=V'→Sq n V'→(∀ i j,i<at_→j<at_→pt M' i j=pt M i j)→Ho w0 w1 (MQ N q O low M' L)→K (.bool b) w1) :
 Aa1 P N.Hg2 #[.pointer (some ⟨q,0,none⟩),.int .i64 (at_:Int)] w K:=by
 refine H.p_inertia_rows_pivot _ _ w _ ?_
 unfold Ax0
 refine Gd1 H hq hn (Nat.le_of_lt ha) hS ?_
 clear hS;intro w hS
 refine ⟨_,_,rfl,?_⟩
 unfold Bp2 at hx
 cases hf:Bw1 n (vals M) at_ with
 | none=>
   rw [hf] at hx
   have hx:=Option.some.inj hx
   cases hx
   refine Ab7 (fun _=>?_) (fun hc=>?_)
   · exact hK M w rfl hq (fun _ _ _ _=>rfl) hS
   · simp [plV] at hc
 | some rc=>
   obtain ⟨row,col⟩:=rc
   rw [hf] at hx
   dsimp only at hx
   obtain ⟨h1,h2,h3⟩:=Cn8 (Nat.le_of_lt ha) hf
   obtain ⟨V1,hV1,hx⟩:=bnd hx
   have hx:=Option.some.inj hx
   cases hx
   unfold plV
   dsimp only
   refine Ab7 (fun hc=>?_) (fun _=>?_)
   · simp at hc;omega
   refine Aa9 (fun _ w=>∃ M1:List Rw,vals M1=V1∧Sq n V1∧(∀ i j,pt M1 i j=pt M i j)∧Ho w0 w (MQ N q O low M1 L)) (fun J hJ=>?_) ?_
   · refine Ab7 (fun hc=>?_) (fun hc=>?_)
     · have hne:row≠col:=by
        intro e;subst e;simp at hc
       rw [decide_eq_true hne,cT] at hV1
       obtain ⟨V2,hV2,hV1⟩:=bnd hV1
       refine Ac0 ⟨_,_,_,hS.mxHd,?_⟩
       have hO:=hS.mxLen
       have hMl:M.length=n:=by rw [← An4];exact hq.1
       rw [hO,hMl]
       refine Aa9 (fun _ w=>∃ M1:List Rw,vals M1=V2∧Sq n V2∧(∀ i j,pt M1 i j=pt M i j)∧Ho w0 w (MQ N q O low M1 L)) (fun J2 hJ2=>?_) ?_
       · refine As0 (fun k s w=>s=((k:Int),())∧∃ M1:List Rw,Al1 (fun k V=>(Au1 (ent V row k) (ent V col k)).bind fun y=>some (Cd5 V row k y)) k (vals M)=some (vals M1)∧Sq n (vals M1)∧(∀ i j,pt M1 i j=pt M i j)∧Ho w0 w (MQ N q O low M1 L)) n ⟨rfl,M,rfl,hq,fun _ _=>rfl,hS⟩ ?_ ?_
         · rintro k s w X hk ⟨rfl,M1,ac,a,f,hS⟩ hX
           dsimp only
           refine Ab7 (fun _=>?_) (fun hc=>?_)
           rotate_left
           · simp at hc;omega
           obtain ⟨x,d,hx,hd,hz,_⟩:=Ax5 a (i:=row) (j:=k) (by omega) hk
           obtain ⟨x2,d2,o,p,ad,_⟩:=Ax5 a (i:=col) (j:=k) (by omega) hk
           obtain ⟨V3,hV3,ae⟩:=Ar5 hV2 hk ac
           obtain ⟨y,hy,hV3⟩:=bnd hV3
           obtain rfl:=Option.some.inj hV3
           refine Be9 hS hx hd rfl rfl ?_
           intro a1 b1 _ _
           refine Be9 hS hx hd rfl rfl ?_
           intro a2 b2 _ _
           refine Be9 hS o p rfl rfl ?_
           intro a3 b3 _ _
           refine Aa7 hS ?_;clear hS;intro w hS
           rw [← hz,← ad] at hy
           refine Bd4 H (hS.mxOut hx hd) (Dz3 hx o p (.inl (fun e=>hne e.symm))) hy ?_
           intro l t c4 w hS4
           have hS5:=Ho.mxIn (d':=⟨d.r,l,t,c4,y⟩) hx hd rfl hS4
           refine ⟨_,rfl,?_⟩
           refine Aa7 hS5 ?_;intro w hS6
           refine hX _ _ ⟨by rw [wrU (by omega)],_,?_,?_,?_,hS6⟩
           · rw [Aq4 hx];exact ae
           · rw [Aq4 hx];exact At3 a (by omega)
           · intro i j;rw [Fy9 (d':=⟨d.r,l,t,c4,y⟩) hx hd rfl];exact f i j
         · rintro s w X ⟨rfl,M1,ac,a,f,hS⟩
           dsimp only
           refine Ab7 (fun hc=>?_) (fun _=>?_)
           · simp at hc
           have:some (vals M1)=some V2:=ac.symm.trans hV2
           obtain rfl:=Option.some.inj this
           exact hJ2 _ _ ⟨M1,rfl,a,f,hS⟩
       · rintro s w ⟨M1,rfl,a,f,hS⟩
         refine Ac0 ⟨_,_,_,hS.mxHd,?_⟩
         have hO:=hS.mxLen
         have hMl1:M1.length=n:=by rw [← An4];exact a.1
         rw [hO,hMl1]
         refine Aa9 (fun _ w=>∃ M2:List Rw,vals M2=V1∧Sq n V1∧(∀ i j,pt M2 i j=pt M i j)∧Ho w0 w (MQ N q O low M2 L)) (fun J3 hJ3=>?_) ?_
         · refine As0 (fun k s w=>s=((k:Int),())∧∃ M2:List Rw,Al1 (fun k V=>(Au1 (ent V k row) (ent V k col)).bind fun y=>some (Cd5 V k row y)) k (vals M1)=some (vals M2)∧Sq n (vals M2)∧(∀ i j,pt M2 i j=pt M i j)∧Ho w0 w (MQ N q O low M2 L)) n ⟨rfl,M1,rfl,a,f,hS⟩ ?_ ?_
           · rintro k s w X hk ⟨rfl,M2,af,c,aa,hS⟩ hX
             dsimp only
             refine Ab7 (fun _=>?_) (fun hc=>?_)
             rotate_left
             · simp at hc;omega
             obtain ⟨x,d,hx,hd,hz,_⟩:=Ax5 c (i:=k) (j:=row) hk (by omega)
             obtain ⟨x2,d2,o,p,ad,_⟩:=Ax5 c (i:=k) (j:=col) hk (by omega)
             obtain ⟨V3,hV3,ae⟩:=Ar5 hV1 hk af
             obtain ⟨y,hy,hV3⟩:=bnd hV3
             obtain rfl:=Option.some.inj hV3
             refine Be9 hS hx hd rfl rfl ?_
             intro a1 b1 _ _
             refine Be9 hS hx hd rfl rfl ?_
             intro a2 b2 _ _
             refine Be9 hS o p rfl rfl ?_
             intro a3 b3 _ _
             refine Aa7 hS ?_;clear hS;intro w hS
             rw [← hz,← ad] at hy
             refine Bd4 H (hS.mxOut hx hd) (Dz3 hx o p (.inr (fun e=>hne e.symm))) hy ?_
             intro l t c4 w hS4
             have hS5:=Ho.mxIn (d':=⟨d.r,l,t,c4,y⟩) hx hd rfl hS4
             refine ⟨_,rfl,?_⟩
             refine Aa7 hS5 ?_;intro w hS6
             refine hX _ _ ⟨by rw [wrU (by omega)],_,?_,?_,?_,hS6⟩
             · rw [Aq4 hx];exact ae
             · rw [Aq4 hx];exact At3 c hk
             · intro i j;rw [Fy9 (d':=⟨d.r,l,t,c4,y⟩) hx hd rfl];exact aa i j
           · rintro s w X ⟨rfl,M2,af,c,aa,hS⟩
             dsimp only
             refine Ab7 (fun hc=>?_) (fun _=>?_)
             · simp at hc
             have:some (vals M2)=some V1:=af.symm.trans hV1
             obtain rfl:=Option.some.inj this
             exact hJ3 _ _ ⟨M2,rfl,c,aa,hS⟩
         · rintro s w h
           exact hJ _ _ h
     · have he:row=col:=by
        simp at hc;omega
       rw [decide_eq_false (by omega),cF] at hV1
       obtain rfl:=Option.some.inj hV1
       exact hJ _ _ ⟨M,rfl,hq,fun _ _=>rfl,hS⟩
   · rintro s w ⟨M1,rfl,a,f,hS⟩
     obtain ⟨x,hx,hxl⟩:=El9 a (i:=at_) ha
     obtain ⟨y,hy,hyl⟩:=El9 a (i:=row) h3
     refine Ac0 ⟨_,_,_,hS.mxHd,?_⟩
     refine Ac0 ⟨_,_,_,hS.mxHd,?_⟩
     refine Dg7 hS hy rfl ?_
     intro a1 _
     refine Dg7 hS hx rfl ?_
     intro a2 ag
     have hO:=hS.mxLen
     have hMl1:M1.length=n:=by rw [← An4];exact a.1
     refine ⟨by omega,by omega,?_⟩
     rw [ag]
     refine Ac0 ?_
     refine Aa7 hS ?_;clear hS;intro w hS
     refine Aw7 (ws:=M1.map AN) (enc:=hdV) (y:=y.1) hS.mxHeads ag (by simp;omega) ?_
     clear hS;intro w hS
     refine ⟨by omega,by omega,?_⟩
     refine Ac0 ?_
     refine Aa7 hS ?_;clear hS;intro w hS
     refine Aw7 (ws:=(M1.map AN).set ((at_:Nat):Int).toNat y.1) (enc:=hdV) (y:=x.1) hS ag (by simp;omega) ?_
     clear hS;intro w hS
     refine Aa7 hS ?_;clear hS;intro w hS
     rw [AL,AL] at hS
     have hS:=Ho.mxRows (I:=N.Hr0) (E:=N.Hq9) (tL:=N.Ho7) hx hy hS
     have ai:=Fs1 hx hy
     have c:Sq n (vals ((M1.set at_ y).set row x)):=by rw [ai];exact Dp8 a ha h3
     have aa:∀ i j,i<at_→j<at_→pt ((M1.set at_ y).set row x) i j=pt M i j:=by
      intro i j hi hj
      rw [← f i j]
      unfold pt
      rw [AD (by omega),AD (by omega)]
     rw [← ai] at hK
     generalize (M1.set at_ y).set row x=M2 at *
     refine Ac0 ⟨_,_,_,hS.mxHd,?_⟩
     have hO2:=hS.mxLen
     have hMl2:M2.length=n:=by rw [← An4];exact c.1
     rw [hO2,hMl2]
     refine Aa9 (fun _ w=>∃ M3:List Rw,vals M3=swC at_ row n (vals M2)∧Sq n (vals M3)∧(∀ i j,i<at_→j<at_→pt M3 i j=pt M i j)∧Ho w0 w (MQ N q O low M3 L)) (fun J2 hJ2=>?_) ?_
     · refine As0 (fun k s w=>s=((k:Int),())∧∃ M3:List Rw,vals M3=swC at_ row k (vals M2)∧Sq n (vals M3)∧(∀ i j,i<at_→j<at_→pt M3 i j=pt M i j)∧Ho w0 w (MQ N q O low M3 L)) n ⟨rfl,M2,rfl,c,aa,hS⟩ ?_ ?_
       · rintro k s w X hk ⟨rfl,M3,m,g,ab,hS⟩ hX
         dsimp only
         refine Ab7 (fun _=>?_) (fun hc=>?_)
         rotate_left
         · simp at hc;omega
         obtain ⟨x,u,hx,hu,hzu,hxl⟩:=Ax5 g (i:=k) (j:=at_) hk ha
         obtain ⟨x',v,hx',hv,hzv,_⟩:=Ax5 g (i:=k) (j:=row) hk h3
         rw [hx] at hx';cases hx'
         refine Dg7 hS hx rfl ?_
         intro a1 _
         refine Dg7 hS hx rfl ?_
         intro a2 _
         refine Be9 hS hx hv rfl rfl ?_
         intro a3 b3 _ _
         refine Be9 hS hx hu rfl rfl ?_
         intro l b4 _ ah
         have hrl:=(hS.mxRr hx).len
         simp only [List.length_map] at hrl
         refine ⟨by omega,by omega,?_⟩
         rw [ah]
         refine Ac0 ?_
         refine Aa7 hS ?_;clear hS;intro w hS
         refine Aw7 (ws:=x.2.map BgD.r) (enc:=Bk3) (y:=v.r) (hS.mxRow hx) ah (by simp;omega) ?_
         clear hS;intro w hS
         refine ⟨by omega,by omega,?_⟩
         refine Ac0 ?_
         refine Aa7 hS ?_;clear hS;intro w hS
         refine Aw7 (ws:=(x.2.map BgD.r).set ((at_:Nat):Int).toNat v.r) (enc:=Bk3) (y:=u.r) hS ah (by simp;omega) ?_
         clear hS;intro w hS
         refine Aa7 hS ?_;clear hS;intro w hS
         rw [AL,AL] at hS
         have hS:=Ho.mxCols hx hu hv hS
         refine hX _ _ ⟨by rw [wrU (by omega)],_,?_,?_,?_,hS⟩
         · rw [Br4]
           show _=(swC at_ row k (vals M2)).set k (swL ((swC at_ row k (vals M2)).getD k []) at_ row)
           rw [← m]
           dsimp only
           rw [AG,AG]
           unfold swL
           have e:(vals M3).getD k []=x.2.map BgD.z:=by rw [AA,Bf2 hx];rfl
           rw [e,Br3 _ hu,Br3 _ hv]
         · rw [Br4]
           refine Fx8 g ?_
           simp
           exact hxl
         · intro i j hi hj
           rw [← ab i j hi hj]
           unfold pt
           by_cases e:i=k
           · subst e
             rw [AM (By7 hx),hx,AS,AS,AD (by omega),AD (by omega)]
           · rw [AD (by omega)]
       · rintro s w X ⟨rfl,M3,m,g,ab,hS⟩
         dsimp only
         refine Ab7 (fun hc=>?_) (fun _=>?_)
         · simp at hc
         exact hJ2 _ _ ⟨M3,m,g,ab,hS⟩
     · rintro s w ⟨M3,m,g,ab,hS⟩
       exact hK M3 w m (by rw [← m];exact g) ab hS
end
end Go.Eng
