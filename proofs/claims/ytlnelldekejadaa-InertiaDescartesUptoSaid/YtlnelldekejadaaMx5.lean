/-
  Matrices of pointers to whole numbers of any size, in memory. No condition.
-/
import Derived.Test.YtlnelldekejadaaBgQ
import Derived.Test.YtlnelldekejadaaTw5
import Derived.Test.YtlnelldekejadaaSh
set_option linter.all false
namespace Go.Eng
open Go
structure BgD where
  r:Nat
  a:Option Addr
  n:Nat
  c:Nat
  z:Int
def ptrV (r:Nat):Value := .pointer (some ⟨r,0,none⟩)
abbrev Rw:=Hd×List BgD
abbrev Mt:=List (List Int)
section
variable (I E tL tO:Nat)
def bgI (d:BgD):It:=bg I E d.r d.a d.n d.c d.z
def rowI (x:Rw):List It:=sl x.1.1 x.1.2.1 x.1.2.2 ((x.2.map BgD.r).map ptrV) tL::x.2.map (bgI I E)
def mxR:List Rw→List It
  | []=>[]
  | x::M=>rowI I E tL x++mxR M
def mxO (O:Hd) (M:List Rw):It:=sl O.1 O.2.1 O.2.2 ((M.map Prod.fst).map hdV) tO
end
def vals (M:List Rw):Mt:=M.map fun x=>x.2.map BgD.z
section
variable {I E tL tO:Nat}
theorem perm_at {α β:Type} (f:α→β):∀ {l:List α} {j:Nat} {d:α},l[j]?=some d→(l.map f).Perm (f d::(l.eraseIdx j).map f)
  | [],_,_,h=>by simp at h
  | x::l,0,d,h=>by simp at h;subst h;exact .refl _
  | x::l,j+1,d,h=>by
    have:=perm_at f (l:=l) (j:=j) (by simpa using h)
    exact (this.cons (f x)).trans (.swap _ _ _)
theorem perm_set {α β:Type} (f:α→β) (d':α):∀ {l:List α} {j:Nat} {d:α},l[j]?=some d→((l.set j d').map f).Perm (f d'::(l.eraseIdx j).map f)
  | [],_,_,h=>by simp at h
  | x::l,0,d,h => .refl _
  | x::l,j+1,d,h=>by
    have:=perm_set f d' (l:=l) (j:=j) (by simpa using h)
    exact (this.cons (f x)).trans (.swap _ _ _)
theorem mxR_at:∀ {M:List Rw} {i:Nat} {x:Rw},M[i]?=some x→(mxR I E tL M).Perm (rowI I E tL x++mxR I E tL (M.eraseIdx i))
  | [],_,_,h=>by simp at h
  | y::M,0,x,h=>by simp at h;subst h;exact .refl _
  | y::M,i+1,x,h=>by
    have:=mxR_at (M:=M) (i:=i) (x:=x) (by simpa using h)
    have h2:=this.append_left (rowI I E tL y)
    refine h2.trans ?_
    show (rowI I E tL y++(rowI I E tL x++mxR I E tL (M.eraseIdx i))).Perm (rowI I E tL x++(rowI I E tL y++mxR I E tL (M.eraseIdx i)))
    rw [← List.append_assoc,← List.append_assoc]
    exact List.perm_append_comm.append_right _
theorem mxR_set {x':Rw}:∀ {M:List Rw} {i:Nat} {x:Rw},M[i]?=some x→(mxR I E tL (M.set i x')).Perm (rowI I E tL x'++mxR I E tL (M.eraseIdx i))
  | [],_,_,h=>by simp at h
  | y::M,0,x,h => .refl _
  | y::M,i+1,x,h=>by
    have:=mxR_set (x':=x') (M:=M) (i:=i) (x:=x) (by simpa using h)
    have h2:=this.append_left (rowI I E tL y)
    refine h2.trans ?_
    show (rowI I E tL y++(rowI I E tL x'++mxR I E tL (M.eraseIdx i))).Perm (rowI I E tL x'++(rowI I E tL y++mxR I E tL (M.eraseIdx i)))
    rw [← List.append_assoc,← List.append_assoc]
    exact List.perm_append_comm.append_right _
def mxZ (I E tL:Nat) (M:List Rw) (i j:Nat) (x:Rw):List It:=sl x.1.1 x.1.2.1 x.1.2.2 ((x.2.map BgD.r).map ptrV) tL::((x.2.eraseIdx j).map (bgI I E)++mxR I E tL (M.eraseIdx i))
theorem mx_take {M:List Rw} {i j:Nat} {x:Rw} {d:BgD} (hx:M[i]?=some x) (hd:x.2[j]?=some d):(mxR I E tL M).Perm (bgI I E d::mxZ I E tL M i j x):=by
  refine (mxR_at hx).trans ?_
  unfold rowI mxZ
  refine List.Perm.trans ?_ (.swap _ _ _)
  refine .cons _ ?_
  exact (perm_at (bgI I E) hd).append_right _
theorem map_r_set {ds:List BgD} {j:Nat} {d d':BgD} (hd:ds[j]?=some d) (hr:d'.r=d.r):(ds.set j d').map BgD.r=ds.map BgD.r:=by
  rw [List.map_set,hr]
  refine List.ext_getElem? fun k=>?_
  rw [List.getElem?_set]
  split
  · rename_i e
    subst e
    have hj:j<ds.length:=by
      rcases Nat.lt_or_ge j ds.length with h | h
      · exact h
      · rw [List.getElem?_eq_none h] at hd;cases hd
    rw [if_pos (by simpa using hj),List.getElem?_map,hd];rfl
  · rfl
theorem mx_put {M:List Rw} {i j:Nat} {x:Rw} {d d':BgD} (hx:M[i]?=some x) (hd:x.2[j]?=some d) (hr:d'.r=d.r):(bgI I E d'::mxZ I E tL M i j x).Perm (mxR I E tL (M.set i (x.1,x.2.set j d'))):=by
  refine List.Perm.trans ?_ (mxR_set (x':=(x.1,x.2.set j d')) hx).symm
  unfold rowI mxZ
  dsimp only
  rw [map_r_set hd hr]
  refine (List.Perm.swap _ _ _).trans (.cons _ ?_)
  exact (perm_set (bgI I E) d' hd).symm.append_right _
theorem mx_memR {M:List Rw} {i:Nat} {x:Rw} (hx:M[i]?=some x) {e:It} (he:e∈rowI I E tL x):e∈mxR I E tL M:=(mxR_at hx).mem_iff.2 (List.mem_append_left _ he)
theorem mx_mem {M:List Rw} {i j:Nat} {x:Rw} {d:BgD} (hx:M[i]?=some x) (hd:x.2[j]?=some d):bgI I E d∈mxR I E tL M:=(mx_take hx hd).mem_iff.2 (List.mem_cons_self ..)
theorem erase_get {α:Type} {l:List α} {i k:Nat} {x:α} (hk:k≠i) (h:l[k]?=some x):∃ q:Nat,(l.eraseIdx i)[q]?=some x:=by
  rcases Nat.lt_or_ge k i with h1 | h1
  · exact ⟨k,by rw [List.getElem?_eraseIdx_of_lt h1];exact h⟩
  · refine ⟨k-1,?_⟩
    rw [List.getElem?_eraseIdx_of_ge (by omega),show k-1+1=k by omega];exact h
theorem mx_memZ {M:List Rw} {i j i2 j2:Nat} {x x2:Rw} {d2:BgD} (hx:M[i]?=some x) (hx2:M[i2]?=some x2) (hd2:x2.2[j2]?=some d2) (hne:i2≠i∨j2≠j):bgI I E d2∈mxZ I E tL M i j x:=by
  unfold mxZ
  refine List.mem_cons_of_mem _ ?_
  by_cases h:i2=i
  · subst h
    rw [hx] at hx2;cases hx2
    obtain ⟨q,hq⟩:=erase_get (i:=j) (by omega) hd2
    exact List.mem_append_left _ (List.mem_map.2 ⟨d2,List.mem_of_getElem? hq,rfl⟩)
  · obtain ⟨q,hq⟩:=erase_get (i:=i) h hx2
    exact List.mem_append_right _ (mx_mem hq hd2)
theorem vals_row {M:List Rw} {i:Nat} {x:Rw} (hx:M[i]?=some x):(vals M)[i]?=some (x.2.map BgD.z):=by
  unfold vals
  rw [List.getElem?_map,hx];rfl
theorem vals_len (M:List Rw):(vals M).length=M.length:=by unfold vals;simp
theorem vals_set {M:List Rw} {i:Nat} {x:Rw}:vals (M.set i x)=(vals M).set i (x.2.map BgD.z):=by unfold vals;rw [List.map_set]
end
end Go.Eng
/-
  Matrices of pointers to whole numbers of any size: reading and writing. No condition.
-/
namespace Go.Eng
open Go
theorem loop_n {σ:Type} {body:σ→(σ→World→Prop)→World→Prop} (I:Nat→σ→World→Prop) (n:Nat) {s0:σ} {w:World} (h0:I 0 s0 w)
    (step:∀ k s w (X:σ→World→Prop),k<n→I k s w→(∀ s' w',I (k+1) s' w'→X s' w')→body s X w)
    (stop:∀ s w (X:σ→World→Prop),I n s w→body s X w):loopM body s0 w:=by
  intro X hX
  have key:∀ m k s w,k+m=n→I k s w→X s w:=by
    intro m
    induction m with
    | zero=>
        intro k s w hk hI;obtain rfl:k=n:=by omega
        exact hX _ _ (stop s w X hI)
    | succ m ih=>intro k s w hk hI;exact hX _ _ (step k s w X (by omega) hI fun s' w' h=>ih (k+1) s' w' (by omega) h)
  exact key n 0 s0 w (by omega) h0
def mxAll (I E tL tO tR q:Nat) (O:Hd) (low:Value) (M:List Rw) (L:List It):List It:=cl q [.slice O.1 O.2.1 O.2.2,low] tR::mxO tO O M::(mxR I E tL M++L)
section
variable {I E tL tO tR q:Nat} {O:Hd} {low:Value} {M:List Rw} {L:List It} {w0 w:World} {i j:Nat} {x:Rw} {d:BgD}
theorem Ho.mxHd (hS:Ho w0 w (mxAll I E tL tO tR q O low M L)):w.cell? ⟨q,0,Option.none⟩=some (.slice O.1 O.2.1 O.2.2):=hS.cel (L:=mxAll I E tL tO tR q O low M L) (i:=0) (List.mem_cons_self ..) rfl
theorem Ho.mxOr (hS:Ho w0 w (mxAll I E tL tO tR q O low M L)):rdA ((M.map Prod.fst).map hdV) O.1 O.2.1 O.2.2 w:=slA.rd (hS.hold _ (List.mem_cons_of_mem _ (List.mem_cons_self ..)))
theorem Ho.mxLen (hS:Ho w0 w (mxAll I E tL tO tR q O low M L)):O.2.1=M.length:=by
  have:=hS.mxOr.len
  simpa using this
theorem Ho.mxRr (hS:Ho w0 w (mxAll I E tL tO tR q O low M L)) (hx:M[i]?=some x):rdA ((x.2.map BgD.r).map ptrV) x.1.1 x.1.2.1 x.1.2.2 w:=
  slA.rd (t:=tL) (hS.hold _ (List.mem_cons_of_mem _ (List.mem_cons_of_mem _ (List.mem_append_left _ (mx_memR hx (List.mem_cons_self ..))))))
theorem Ho.mxBg (hx:M[i]?=some x) (hd:x.2[j]?=some d):bgI I E d∈mxAll I E tL tO tR q O low M L:=List.mem_cons_of_mem _ (List.mem_cons_of_mem _ (List.mem_append_left _ (mx_mem hx hd)))
theorem Ent.mxBg (hx:M[i]?=some x) (hd:x.2[j]?=some d):Ent (mxAll I E tL tO tR q O low M L) (bgR I d.r d.a d.n d.c d.z):=Ent.bg (Ho.mxBg hx hd)
theorem rd_row {ii:Int} {K:Addr→Option Addr→Nat→Nat→Addr→Option Addr→Nat→Nat→Prop} (hS:Ho w0 w (mxAll I E tL tO tR q O low M L)) (hx:M[i]?=some x) (hi:ii=(i:Int))
    (hK:∀ a:Addr,O.1=some a→K ⟨q,0,none⟩ O.1 O.2.1 O.2.2 a x.1.1 x.1.2.1 x.1.2.2) :
    optM (some ⟨q,0,none⟩) fun a1=>∃ (s1:Option Addr) (l1 c1:Nat),w.cell? a1=some (.slice s1 l1 c1)∧(0:Int)≤ii∧ii<(l1:Nat)∧optM s1 fun a2=>∃ (s2:Option Addr) (l2 c2:Nat),w.cell? (a2.add (ii.toNat*1))=some (.slice s2 l2 c2)∧K a1 s1 l1 c1 a2 s2 l2 c2:=by
  subst hi
  refine optM_s ⟨_,_,_,hS.mxHd,?_⟩
  have hg:(M.map Prod.fst)[((i:Nat):Int).toNat]?=some x.1:=by
    rw [Int.toNat_natCast,List.getElem?_map,hx];rfl
  have hl:((i:Nat):Int).toNat<(M.map Prod.fst).length:=by
    rcases Nat.lt_or_ge ((i:Nat):Int).toNat (M.map Prod.fst).length with h | h
    · exact h
    · rw [List.getElem?_eq_none h] at hg;cases hg
  refine idx_s hS.mxOr hg (by omega) hl ?_
  intro b hb
  exact ⟨_,_,_,rdL_get hS.mxOr hb hg,hK b hb⟩
theorem rd_ent {ii jj:Int} {K:Addr→Option Addr→Nat→Nat→Addr→Option Addr→Nat→Nat→Addr→Option Addr→Prop} (hS:Ho w0 w (mxAll I E tL tO tR q O low M L)) (hx:M[i]?=some x) (hd:x.2[j]?=some d) (hi:ii=(i:Int)) (hj:jj=(j:Int))
    (hK:∀ a b:Addr,O.1=some a→x.1.1=some b→K ⟨q,0,none⟩ O.1 O.2.1 O.2.2 a x.1.1 x.1.2.1 x.1.2.2 b (some ⟨d.r,0,none⟩)) :
    optM (some ⟨q,0,none⟩) fun a1=>∃ (s1:Option Addr) (l1 c1:Nat),w.cell? a1=some (.slice s1 l1 c1)∧(0:Int)≤ii∧ii<(l1:Nat)∧optM s1 fun a2=>∃ (s2:Option Addr) (l2 c2:Nat),w.cell? (a2.add (ii.toNat*1))=some (.slice s2 l2 c2)∧(0:Int)≤jj∧jj<(l2:Nat)∧optM s2 fun a3=>∃ p:Option Addr,w.cell? (a3.add (jj.toNat*1))=some (.pointer p)∧K a1 s1 l1 c1 a2 s2 l2 c2 a3 p:=by
  refine rd_row hS hx hi fun a ha=>?_
  subst hj
  have hg:(x.2.map BgD.r)[((j:Nat):Int).toNat]?=some d.r:=by
    rw [Int.toNat_natCast,List.getElem?_map,hd];rfl
  have hl:((j:Nat):Int).toNat<(x.2.map BgD.r).length:=by
    rcases Nat.lt_or_ge ((j:Nat):Int).toNat (x.2.map BgD.r).length with h | h
    · exact h
    · rw [List.getElem?_eq_none h] at hg;cases hg
  refine idx_s (hS.mxRr hx) hg (by omega) hl ?_
  intro b hb
  exact ⟨_,rd_get (enc:=ptrV) (hS.mxRr hx) hb hg,hK a b ha hb⟩
end
def ent (V:Mt) (i j:Nat):Int:=(V.getD i []).getD j 0
def setE (V:Mt) (i j:Nat) (x:Int):Mt:=V.set i ((V.getD i []).set j x)
def Sq (n:Nat) (V:Mt):Prop:=V.length=n∧∀ l∈V,l.length=n
theorem sq_row {n:Nat} {M:List Rw} (h:Sq n (vals M)) {i:Nat} (hi:i<n):∃ x,M[i]?=some x∧x.2.length=n:=by
  have hl:i<M.length:=by rw [← vals_len,h.1];exact hi
  refine ⟨M[i],List.getElem?_eq_getElem hl,?_⟩
  have:=h.2 (M[i].2.map BgD.z) (by unfold vals;exact List.mem_map.2 ⟨M[i],List.getElem_mem hl,rfl⟩)
  simpa using this
theorem sq_ent {n:Nat} {M:List Rw} (h:Sq n (vals M)) {i j:Nat} (hi:i<n) (hj:j<n):∃ x d,M[i]?=some x∧x.2[j]?=some d∧d.z=ent (vals M) i j∧x.2.length=n:=by
  obtain ⟨x,hx,hl⟩:=sq_row h hi
  refine ⟨x,x.2[j],hx,List.getElem?_eq_getElem (by omega),?_,hl⟩
  unfold ent
  rw [List.getD_eq_getElem?_getD (l:=vals M),vals_row hx,Option.getD_some,List.getD_eq_getElem?_getD,List.getElem?_map,List.getElem?_eq_getElem (by omega)]
  rfl
theorem vals_setE {M:List Rw} {i j:Nat} {x:Rw} {d:BgD} (hx:M[i]?=some x):vals (M.set i (x.1,x.2.set j d))=setE (vals M) i j d.z:=by
  unfold setE
  rw [vals_set,List.getD_eq_getElem?_getD,vals_row hx,Option.getD_some]
  dsimp only
  rw [List.map_set]
theorem sq_setE {n:Nat} {V:Mt} (h:Sq n V) {i j:Nat} {y:Int} (hi:i<n):Sq n (setE V i j y):=by
  unfold setE
  refine ⟨by rw [List.length_set];exact h.1,fun l hl=>?_⟩
  rcases List.mem_or_eq_of_mem_set hl with h1 | rfl
  · exact h.2 l h1
  · rw [List.length_set]
    have hl:i<V.length:=by rw [h.1];exact hi
    rw [List.getD_eq_getElem?_getD,List.getElem?_eq_getElem hl]
    exact h.2 _ (List.getElem_mem hl)
theorem ent_setE {n:Nat} {V:Mt} (h:Sq n V) {i j i2 j2:Nat} {y:Int} (hi:i<n) (hj:j<n):ent (setE V i j y) i2 j2=if i2=i∧j2=j then y else ent V i2 j2:=by
  unfold ent setE
  have hl:i<V.length:=by rw [h.1];exact hi
  have hll:(V.getD i []).length=n:=by
    rw [List.getD_eq_getElem?_getD,List.getElem?_eq_getElem hl]
    exact h.2 _ (List.getElem_mem hl)
  by_cases e1:i2=i
  · subst e1
    rw [List.getD_eq_getElem?_getD (l:=V.set _ _),List.getElem?_set_self hl,Option.getD_some]
    by_cases e2:j2=j
    · subst e2
      rw [if_pos ⟨rfl,rfl⟩,List.getD_eq_getElem?_getD,List.getElem?_set_self (by omega),Option.getD_some]
    · rw [if_neg (by omega),List.getD_eq_getElem?_getD,List.getElem?_set_ne (by omega),← List.getD_eq_getElem?_getD]
  · rw [if_neg (by omega),List.getD_eq_getElem?_getD (l:=V.set _ _),List.getElem?_set_ne (by omega),← List.getD_eq_getElem?_getD]
end Go.Eng
/-
  inertia's rows: the search for a place that is not nought. No condition.
-/
set_option maxRecDepth 100000
set_option maxHeartbeats 4000000
namespace Go.Eng
open Go
def offRow (V:Mt) (i:Nat):Nat→Nat→Option Nat
  | _,0=>none
  | j,k+1=>if ent V i j≠0 then some j else offRow V i (j+1) k
def offAll (V:Mt) (at_:Nat):Nat→Nat→Option (Nat×Nat)
  | _,0=>none
  | i,k+1=>match offRow V i at_ (i-at_) with
    | some j=>some (i,j)
    | none=>offAll V at_ (i+1) k
def diagAt (V:Mt):Nat→Nat→Option Nat
  | _,0=>none
  | i,k+1=>if ent V i i≠0 then some i else diagAt V (i+1) k
theorem offRow_succ (V:Mt) (i j k:Nat):offRow V i j (k+1)=if ent V i j≠0 then some j else offRow V i (j+1) k:=rfl
theorem offAll_succ (V:Mt) (at_ i k:Nat):offAll V at_ i (k+1)=match offRow V i at_ (i-at_) with
    | some j=>some (i,j)
    | none=>offAll V at_ (i+1) k:=rfl
theorem diagAt_succ (V:Mt) (i k:Nat):diagAt V i (k+1)=if ent V i i≠0 then some i else diagAt V (i+1) k:=rfl
def findT (n:Nat) (V:Mt) (at_:Nat):Option (Nat×Nat):=
  match diagAt V at_ (n-at_) with
  | some i=>some (i,i)
  | none=>offAll V at_ at_ (n-at_)
def plV:Option (Nat×Nat)→Int×Int
  | some (i,j)=>((i:Int),(j:Int))
  | none=>(-1, -1)
theorem sgn_ne (z:Int):((if z<0 then (-1:Int) else if z=0 then 0 else 1) != 0)=decide (z≠0):=by
  rcases Int.lt_trichotomy z 0 with h | h | h
  · rw [if_pos h,decide_eq_true (by omega)];rfl
  · subst h;rfl
  · rw [if_neg (by omega),if_neg (by omega),decide_eq_true (by omega)];rfl
abbrev MQ (N:Nums) (q:Nat) (O:Hd) (low:Value) (M:List Rw) (L:List It):List It:=mxAll N.t_bn_Int N.t_uint32 N.t_p_bn_Int N.t_L_p_bn_Int N.t_inertia_rows q O low M L
section
variable {N:Nums} {P:Program} (H:AllOk N P)
include H
theorem wk_find {w0 w:World} {L:List It} {q:Nat} {O:Hd} {low:Value} {M:List Rw} {n at_:Nat} (hq:Sq n (vals M)) (hn:n≤1073741824) (ha:at_≤n)
    (hS:Ho w0 w (MQ N q O low M L)) {K:Value→World→Prop}
    (hK:∀ w1:World,Ho w0 w1 (MQ N q O low M L)→K (.tuple #[.int .i64 (plV (findT n (vals M) at_)).1,.int .i64 (plV (findT n (vals M) at_)).2]) w1) :
    CallsX P N.f_p_inertia_rows_find #[.pointer (some ⟨q,0,none⟩),.int .i64 (at_:Int)] w K:=by
  refine H.p_inertia_rows_find _ _ w _ ?_
  unfold S_p_inertia_rows_find
  have hMl:M.length=n:=by rw [← vals_len];exact hq.1
  refine cutM_i (fun s w=>s=((plV (offAll (vals M) at_ at_ (n-at_))).1,(plV (offAll (vals M) at_ at_ (n-at_))).2,())∧Ho w0 w (MQ N q O low M L)) (fun J hJ=>?_) ?_
  · refine loop_n (fun k s w=>s=(-1, -1,((at_+k:Nat):Int),())∧offAll (vals M) at_ at_ (n-at_)=offAll (vals M) at_ (at_+k) (n-at_-k)∧Ho w0 w (MQ N q O low M L)) (n-at_) ⟨by simp,rfl,hS⟩ ?_ ?_
    · rintro k s w X hk ⟨rfl,he,hS⟩ hX
      dsimp only
      refine optM_s ⟨_,_,_,hS.mxHd,?_⟩
      refine cond_i (fun _=>?_) (fun hc=>?_)
      rotate_left
      · rw [hS.mxLen,hMl] at hc;simp at hc;omega
      refine cutM_i (fun s w=>s=(-1, -1,())∧offRow (vals M) (at_+k) at_ k=none∧Ho w0 w (MQ N q O low M L)) (fun J2 hJ2=>?_) ?_
      · refine loop_n (fun m s w=>s=(-1, -1,((at_+m:Nat):Int),())∧offRow (vals M) (at_+k) at_ k=offRow (vals M) (at_+k) (at_+m) (k-m)∧Ho w0 w (MQ N q O low M L)) k ⟨by simp,rfl,hS⟩ ?_ ?_
        · rintro m s w X2 hm ⟨rfl,he2,hS⟩ hX2
          dsimp only
          rw [show k-m=(k-(m+1))+1 by omega] at he2
          refine cond_i (fun _=>?_) (fun hc=>?_)
          rotate_left
          · simp at hc;omega
          obtain ⟨x,d,hx,hd,hz,_⟩:=sq_ent hq (i:=at_+k) (j:=at_+m) (by omega) (by omega)
          refine rd_ent hS hx hd rfl rfl ?_
          intro a b _ _
          refine big_Sign_x H hS (Ent.mxBg hx hd) rfl ?_
          intro w1 hS1
          refine ⟨_,rfl,?_⟩
          rw [sgn_ne,hz]
          rw [offRow_succ] at he2
          refine cond_i (fun hc=>?_) (fun hc=>?_)
          · rw [if_pos (by simpa using hc)] at he2
            refine hJ _ _ ⟨?_,hS1⟩
            rw [he,show n-at_-k=(n-at_-k-1)+1 by omega,offAll_succ,show at_+k-at_=k by omega,he2]
            rfl
          · rw [if_neg (by simpa using hc)] at he2
            refine hX2 _ _ ⟨?_,he2,hS1⟩
            rw [wrU (by omega)];rfl
        · rintro s w X2 ⟨rfl,he2,hS⟩
          dsimp only
          refine cond_i (fun hc=>?_) (fun _=>?_)
          · simp at hc
          rw [Nat.sub_self] at he2
          exact hJ2 _ _ ⟨rfl,he2,hS⟩
      · rintro s w ⟨rfl,he2,hS⟩
        dsimp only
        refine hX _ _ ⟨?_,?_,hS⟩
        · rw [wrU (by omega)];rfl
        · rw [he,show n-at_-k=(n-at_-(k+1))+1 by omega,offAll_succ,show at_+k-at_=k by omega,he2]
          rfl
    · rintro s w X ⟨rfl,he,hS⟩
      dsimp only
      refine optM_s ⟨_,_,_,hS.mxHd,?_⟩
      refine cond_i (fun hc=>?_) (fun _=>?_)
      · rw [hS.mxLen,hMl] at hc;simp at hc;omega
      rw [Nat.sub_self] at he
      exact hJ _ _ ⟨by rw [he];rfl,hS⟩
  · rintro s w ⟨rfl,hS⟩
    dsimp only
    refine cutM_i (fun s w=>diagAt (vals M) at_ (n-at_)=none∧Ho w0 w (MQ N q O low M L)) (fun J hJ=>?_) ?_
    · refine loop_n (fun k s w=>s=(((at_+k:Nat):Int),())∧diagAt (vals M) at_ (n-at_)=diagAt (vals M) (at_+k) (n-at_-k)∧Ho w0 w (MQ N q O low M L)) (n-at_) ⟨by simp,rfl,hS⟩ ?_ ?_
      · rintro k s w X hk ⟨rfl,he,hS⟩ hX
        dsimp only
        refine optM_s ⟨_,_,_,hS.mxHd,?_⟩
        refine cond_i (fun _=>?_) (fun hc=>?_)
        rotate_left
        · rw [hS.mxLen,hMl] at hc;simp at hc;omega
        rw [show n-at_-k=(n-at_-(k+1))+1 by omega] at he
        obtain ⟨x,d,hx,hd,hz,_⟩:=sq_ent hq (i:=at_+k) (j:=at_+k) (by omega) (by omega)
        refine rd_ent hS hx hd rfl rfl ?_
        intro a b _ _
        refine big_Sign_x H hS (Ent.mxBg hx hd) rfl ?_
        intro w1 hS1
        refine ⟨_,rfl,?_⟩
        rw [sgn_ne,hz]
        rw [diagAt_succ] at he
        refine cond_i (fun hc=>?_) (fun hc=>?_)
        · rw [if_pos (by simpa using hc)] at he
          have e:findT n (vals M) at_=some (at_+k,at_+k):=by unfold findT;rw [he]
          have:=hK w1 hS1
          rw [e] at this
          exact this
        · rw [if_neg (by simpa using hc)] at he
          refine hX _ _ ⟨?_,?_,hS1⟩
          · rw [wrU (by omega)];rfl
          · exact he
      · rintro s w X ⟨rfl,he,hS⟩
        dsimp only
        refine optM_s ⟨_,_,_,hS.mxHd,?_⟩
        refine cond_i (fun hc=>?_) (fun _=>?_)
        · rw [hS.mxLen,hMl] at hc;simp at hc;omega
        rw [Nat.sub_self] at he
        exact hJ _ _ ⟨he,hS⟩
    · rintro s w ⟨he,hS⟩
      have e:findT n (vals M) at_=offAll (vals M) at_ at_ (n-at_):=by unfold findT;rw [he]
      have:=hK w hS
      rw [e] at this
      exact this
end
end Go.Eng
/-
  Matrices of pointers: numbers changed in place, rows and columns exchanged. No condition.
-/
set_option maxRecDepth 100000
set_option maxHeartbeats 4000000
namespace Go.Eng
open Go
section
variable {I E tL tO tR q:Nat} {O:Hd} {low:Value} {M:List Rw} {L:List It} {w0 w:World} {i j:Nat} {x:Rw} {d d':BgD}
theorem heads_set (hx:M[i]?=some x) {ds:List BgD}:(M.set i (x.1,ds)).map Prod.fst=M.map Prod.fst:=by
  rw [List.map_set]
  refine List.ext_getElem? fun k=>?_
  rw [List.getElem?_set]
  split
  · rename_i e
    subst e
    have hj:i<M.length:=by
      rcases Nat.lt_or_ge i M.length with h | h
      · exact h
      · rw [List.getElem?_eq_none h] at hx;cases hx
    rw [if_pos (by simpa using hj),List.getElem?_map,hx];rfl
  · rfl
def mxBut (I E tL tO tR q:Nat) (O:Hd) (low:Value) (M:List Rw) (L:List It) (i j:Nat) (x:Rw):List It:=cl q [.slice O.1 O.2.1 O.2.2,low] tR::mxO tO O M::(mxZ I E tL M i j x++L)
theorem Ho.mxOut (hS:Ho w0 w (mxAll I E tL tO tR q O low M L)) (hx:M[i]?=some x) (hd:x.2[j]?=some d):Ho w0 w (bg I E d.r d.a d.n d.c d.z::mxBut I E tL tO tR q O low M L i j x):=by
  refine hS.perm ?_
  unfold mxAll mxBut
  refine (((mx_take hx hd).append_right L).cons _ |>.cons _).trans ?_
  exact ((List.Perm.swap _ _ _).cons _).trans (.swap _ _ _)
theorem Ho.mxIn (hx:M[i]?=some x) (hd:x.2[j]?=some d) (hr:d'.r=d.r) (hS:Ho w0 w (bg I E d'.r d'.a d'.n d'.c d'.z::mxBut I E tL tO tR q O low M L i j x)):Ho w0 w (mxAll I E tL tO tR q O low (M.set i (x.1,x.2.set j d')) L):=by
  refine hS.perm ?_
  unfold mxAll mxBut
  have e:mxO tO O (M.set i (x.1,x.2.set j d'))=mxO tO O M:=by unfold mxO;rw [heads_set hx]
  rw [e]
  refine List.Perm.trans ?_ ((((mx_put (I:=I) (E:=E) (tL:=tL) hx hd hr).append_right L).cons _).cons _)
  exact (List.Perm.swap _ _ _).trans ((List.Perm.swap _ _ _).cons _)
theorem mxBut_mem {i2 j2:Nat} {x2:Rw} {d2:BgD} (hx:M[i]?=some x) (hx2:M[i2]?=some x2) (hd2:x2.2[j2]?=some d2) (hne:i2≠i∨j2≠j):Ent (mxBut I E tL tO tR q O low M L i j x) (bgR I d2.r d2.a d2.n d2.c d2.z):=
  Ent.bg (List.mem_cons_of_mem _ (List.mem_cons_of_mem _ (List.mem_append_left _ (mx_memZ hx hx2 hd2 hne))))
theorem mxR_perm {M':List Rw} (h:M.Perm M'):(mxR I E tL M).Perm (mxR I E tL M'):=by
  induction h with
  | nil=>exact .refl _
  | cons x _ ih=>exact ih.append_left _
  | swap x y l=>
    show (rowI I E tL y++(rowI I E tL x++mxR I E tL l)).Perm (rowI I E tL x++(rowI I E tL y++mxR I E tL l))
    rw [← List.append_assoc,← List.append_assoc]
    exact List.perm_append_comm.append_right _
  | trans _ _ h1 h2=>exact h1.trans h2
theorem swap_perm {α:Type} {l:List α} {a b:Nat} {x y:α} (ha:l[a]?=some x) (hb:l[b]?=some y):((l.set a y).set b x).Perm l:=by
  obtain ⟨h1,rfl⟩:=List.getElem?_eq_some_iff.1 ha
  obtain ⟨h2,rfl⟩:=List.getElem?_eq_some_iff.1 hb
  exact List.set_set_perm h1 h2
theorem Ho.mxHeads (hS:Ho w0 w (mxAll I E tL tO tR q O low M L)):Ho w0 w (sl O.1 O.2.1 O.2.2 ((M.map Prod.fst).map hdV) tO::(cl q [.slice O.1 O.2.1 O.2.2,low] tR::(mxR I E tL M++L))):=hS.perm (.swap _ _ _)
theorem Ho.mxRows {a b:Nat} {x y:Rw} (ha:M[a]?=some x) (hb:M[b]?=some y) (hS:Ho w0 w (sl O.1 O.2.1 O.2.2 (((((M.map Prod.fst).set a y.1).set b x.1)).map hdV) tO::(cl q [.slice O.1 O.2.1 O.2.2,low] tR::(mxR I E tL M++L)))):Ho w0 w (mxAll I E tL tO tR q O low ((M.set a y).set b x) L):=by
  refine hS.perm ?_
  unfold mxAll mxO
  have e1:((M.set a y).set b x).map Prod.fst=((M.map Prod.fst).set a y.1).set b x.1:=by rw [List.map_set,List.map_set]
  rw [e1]
  refine (List.Perm.swap _ _ _).trans (.cons _ (.cons _ ?_))
  exact (mxR_perm (swap_perm ha hb)).symm.append_right L
theorem Ho.mxRow (hS:Ho w0 w (mxAll I E tL tO tR q O low M L)) (hx:M[i]?=some x):Ho w0 w (sl x.1.1 x.1.2.1 x.1.2.2 ((x.2.map BgD.r).map ptrV) tL::(cl q [.slice O.1 O.2.1 O.2.2,low] tR::mxO tO O M::((x.2.map (bgI I E)++mxR I E tL (M.eraseIdx i))++L))):=by
  refine hS.perm ?_
  unfold mxAll
  refine ((((mxR_at hx).append_right L).cons _).cons _).trans ?_
  exact ((List.Perm.swap _ _ _).cons _).trans (.swap _ _ _)
theorem Ho.mxCols {a b:Nat} {u v:BgD} (hx:M[i]?=some x) (ha:x.2[a]?=some u) (hb:x.2[b]?=some v) (hS:Ho w0 w (sl x.1.1 x.1.2.1 x.1.2.2 ((((x.2.map BgD.r).set a v.r).set b u.r).map ptrV) tL::(cl q [.slice O.1 O.2.1 O.2.2,low] tR::mxO tO O M::((x.2.map (bgI I E)++mxR I E tL (M.eraseIdx i))++L)))):Ho w0 w (mxAll I E tL tO tR q O low (M.set i (x.1,(x.2.set a v).set b u)) L):=by
  refine hS.perm ?_
  unfold mxAll
  have e:mxO tO O (M.set i (x.1,(x.2.set a v).set b u))=mxO tO O M:=by unfold mxO;rw [heads_set hx]
  rw [e]
  refine List.Perm.trans ?_ ((((mxR_set (I:=I) (E:=E) (tL:=tL) (x':=(x.1,(x.2.set a v).set b u)) hx).symm.append_right L).cons _).cons _)
  refine List.Perm.trans ((List.Perm.swap _ _ _).trans ((List.Perm.swap _ _ _).cons _)) (.cons _ (.cons _ ?_))
  unfold rowI
  dsimp only
  have e1:((x.2.set a v).set b u).map BgD.r=((x.2.map BgD.r).set a v.r).set b u.r:=by rw [List.map_set,List.map_set]
  rw [e1]
  refine List.Perm.cons _ ?_
  refine List.Perm.append_right L ?_
  refine List.Perm.append_right _ ?_
  exact ((swap_perm ha hb).symm.map _)
theorem Ho.mxNew (hS:Ho w0 w (sl x.1.1 x.1.2.1 x.1.2.2 (((x.2.map BgD.r).set j d'.r).map ptrV) tL::bg I E d'.r d'.a d'.n d'.c d'.z::(cl q [.slice O.1 O.2.1 O.2.2,low] tR::mxO tO O M::((x.2.map (bgI I E)++mxR I E tL (M.eraseIdx i))++L)))) (hx:M[i]?=some x) (hd:x.2[j]?=some d):Ho w0 w (mxAll I E tL tO tR q O low (M.set i (x.1,x.2.set j d')) L):=by
  have h1:Ho w0 w (sl x.1.1 x.1.2.1 x.1.2.2 (((x.2.map BgD.r).set j d'.r).map ptrV) tL::(cl q [.slice O.1 O.2.1 O.2.2,low] tR::mxO tO O M::((((x.2.set j d').map (bgI I E))++mxR I E tL (M.eraseIdx i))++L))):=by
    have h2:Ho w0 w (bgI I E d::(sl x.1.1 x.1.2.1 x.1.2.2 (((x.2.map BgD.r).set j d'.r).map ptrV) tL::(cl q [.slice O.1 O.2.1 O.2.2,low] tR::mxO tO O M::((((x.2.set j d').map (bgI I E))++mxR I E tL (M.eraseIdx i))++L)))):=by
      refine hS.perm ?_
      have p1:=perm_at (bgI I E) hd
      have p2:=perm_set (bgI I E) d' hd
      -- d' :: ds ~ d :: ds'
      have p3:(bgI I E d'::x.2.map (bgI I E)).Perm (bgI I E d::(x.2.set j d').map (bgI I E)):=
        ((p1.cons _).trans (.swap _ _ _)).trans (p2.symm.cons _)
      have p4:=(p3.append_right (mxR I E tL (M.eraseIdx i))).append_right L
      -- the two ahead
      have p5:∀ (s c o b:It) (X:List It),(s::b::c::o::X).Perm (s::c::o::b::X):=fun s c o b X => .cons _ ((List.Perm.swap _ _ _).trans ((List.Perm.swap _ _ _).cons _))
      have p6:∀ (s c o b:It) (X:List It),(s::c::o::b::X).Perm (b::s::c::o::X):=fun s c o b X=>(((List.Perm.swap _ _ _).cons _).cons _).trans (((List.Perm.swap _ _ _).cons _).trans (.swap _ _ _))
      refine (p5 _ _ _ _ _).trans (List.Perm.trans ?_ (p6 _ _ _ _ _))
      exact ((p4.cons _).cons _).cons _
    exact h2.drop
  refine h1.perm ?_
  unfold mxAll
  have e:mxO tO O (M.set i (x.1,x.2.set j d'))=mxO tO O M:=by unfold mxO;rw [heads_set hx]
  rw [e]
  refine List.Perm.trans ?_ ((((mxR_set (I:=I) (E:=E) (tL:=tL) (x':=(x.1,x.2.set j d')) hx).symm.append_right L).cons _).cons _)
  refine List.Perm.trans ((List.Perm.swap _ _ _).trans ((List.Perm.swap _ _ _).cons _)) (.cons _ (.cons _ ?_))
  unfold rowI
  dsimp only
  have e1:(x.2.set j d').map BgD.r=(x.2.map BgD.r).set j d'.r:=by rw [List.map_set]
  rw [e1]
  exact .refl _
end
def pt (M:List Rw) (i j:Nat):Option Nat:=(M[i]?).bind fun x=>(x.2[j]?).map BgD.r
theorem pt_set {M:List Rw} {i j:Nat} {x:Rw} {d d':BgD} (hx:M[i]?=some x) (hd:x.2[j]?=some d) (hr:d'.r=d.r) (i2 j2:Nat):pt (M.set i (x.1,x.2.set j d')) i2 j2=pt M i2 j2:=by
  unfold pt
  by_cases h:i2=i
  · subst h
    have hj:i2<M.length:=by
      rcases Nat.lt_or_ge i2 M.length with h | h
      · exact h
      · rw [List.getElem?_eq_none h] at hx;cases hx
    rw [List.getElem?_set_self hj,hx,Option.bind_some,Option.bind_some,← List.getElem?_map,← List.getElem?_map,map_r_set hd hr]
  · rw [List.getElem?_set_ne (by omega)]
end Go.Eng
/-
  inertia's rows: the pivot. No condition.
-/
set_option maxRecDepth 100000
set_option maxHeartbeats 4000000
namespace Go.Eng
open Go
def foldO {α:Type} (f:Nat→α→Option α):Nat→α→Option α
  | 0,a=>some a
  | n+1,a=>(foldO f n a).bind (f n)
theorem foldO_pre {α:Type} {f:Nat→α→Option α} {a:α}:∀ {n:Nat} {b:α},foldO f n a=some b→∀ k,k≤n→∃ c,foldO f k a=some c
  | 0,b,h,k,hk=>by
      obtain rfl:k=0:=by omega
      exact ⟨a,rfl⟩
  | n+1,b,h,k,hk=>by
    obtain ⟨c,h1,h2⟩:=bnd (show (foldO f n a).bind (f n)=some b from h)
    by_cases e:k=n+1
    · subst e;exact ⟨b,h⟩
    · exact foldO_pre h1 k (by omega)
theorem foldO_at {α:Type} {f:Nat→α→Option α} {a:α} {n:Nat} {b:α} (h:foldO f n a=some b) {k:Nat} (hk:k<n) {c:α} (hc:foldO f k a=some c):∃ d,f k c=some d∧foldO f (k+1) a=some d:=by
  obtain ⟨d,hd⟩:=foldO_pre h (k+1) hk
  refine ⟨d,?_,hd⟩
  have:(foldO f k a).bind (f k)=some d:=hd
  rw [hc] at this
  exact this
def addRowT (n row col:Nat):Mt→Option Mt:=foldO (fun k V=>(bigAdd (ent V row k) (ent V col k)).bind fun y=>some (setE V row k y)) n
def addColT (n row col:Nat):Mt→Option Mt:=foldO (fun k V=>(bigAdd (ent V k row) (ent V k col)).bind fun y=>some (setE V k row y)) n
def swR (V:Mt) (a b:Nat):Mt:=(V.set a (V.getD b [])).set b (V.getD a [])
def swL (l:List Int) (a b:Nat):List Int:=(l.set a (l.getD b 0)).set b (l.getD a 0)
def swC (a b:Nat):Nat→Mt→Mt
  | 0,V=>V
  | k+1,V=>(swC a b k V).set k (swL ((swC a b k V).getD k []) a b)
def pivotT (n:Nat) (V:Mt) (at_:Nat):Option (Bool×Mt):=
  match findT n V at_ with
  | none=>some (false,V)
  | some (row,col)=>(cond (decide (row≠col)) ((addRowT n row col V).bind (addColT n row col)) (some V)).bind fun V=>some (true,swC at_ row n (swR V at_ row))
theorem offRow_in {V:Mt} {i:Nat}:∀ {k j p:Nat},offRow V i j k=some p→j≤p∧p<j+k
  | 0,_,_,h=>by cases h
  | k+1,j,p,h=>by
    rw [offRow_succ] at h
    split at h
    · obtain rfl:=Option.some.inj h;omega
    · have:=offRow_in h;omega
theorem offAll_in {V:Mt} {at_:Nat}:∀ {k i p q:Nat},at_≤i→offAll V at_ i k=some (p,q)→at_≤q∧q<p∧i≤p∧p<i+k
  | 0,_,_,_,_,h=>by cases h
  | k+1,i,p,q,hi,h=>by
    rw [offAll_succ] at h
    split at h
    · rename_i j hj
      have:=offRow_in hj
      cases h
      omega
    · have:=offAll_in (by omega) h;omega
theorem diagAt_in {V:Mt}:∀ {k i p:Nat},diagAt V i k=some p→i≤p∧p<i+k∧ent V p p≠0
  | 0,_,_,h=>by cases h
  | k+1,i,p,h=>by
    rw [diagAt_succ] at h
    split at h
    · rename_i h0;obtain rfl:=Option.some.inj h;exact ⟨by omega,by omega,h0⟩
    · have:=diagAt_in h;exact ⟨by omega,by omega,this.2.2⟩
theorem findT_in {n:Nat} {V:Mt} {at_ p q:Nat} (ha:at_≤n) (h:findT n V at_=some (p,q)):at_≤q∧q≤p∧p<n:=by
  unfold findT at h
  split at h
  · rename_i i hi
    have:=diagAt_in hi
    cases h
    omega
  · have:=offAll_in (Nat.le_refl _) h;omega
theorem map_getD {α β:Type} (f:α→β) {l:List α} {i:Nat} {x:α} (h:l[i]?=some x) (d:β):(l.map f).getD i d=f x:=by
  rw [List.getD_eq_getElem?_getD,List.getElem?_map,h];rfl
theorem get_lt {α:Type} {l:List α} {i:Nat} {x:α} (h:l[i]?=some x):i<l.length:=by
  rcases Nat.lt_or_ge i l.length with h1 | h1
  · exact h1
  · rw [List.getElem?_eq_none h1] at h;cases h
theorem vals_swR {M:List Rw} {a b:Nat} {x y:Rw} (ha:M[a]?=some x) (hb:M[b]?=some y):vals ((M.set a y).set b x)=swR (vals M) a b:=by
  unfold swR
  rw [vals_set,vals_set]
  unfold vals
  rw [map_getD (fun x:Rw=>x.2.map BgD.z) ha,map_getD (fun x:Rw=>x.2.map BgD.z) hb]
theorem sq_swR {n:Nat} {V:Mt} (h:Sq n V) {a b:Nat} (ha:a<n) (hb:b<n):Sq n (swR V a b):=by
  unfold swR
  have hg:∀ i,i<n→(V.getD i []).length=n:=fun i hi=>by
    have hl:i<V.length:=by rw [h.1];exact hi
    rw [List.getD_eq_getElem?_getD,List.getElem?_eq_getElem hl]
    exact h.2 _ (List.getElem_mem hl)
  refine ⟨by rw [List.length_set,List.length_set];exact h.1,fun l hl=>?_⟩
  rcases List.mem_or_eq_of_mem_set hl with h1 | rfl
  · rcases List.mem_or_eq_of_mem_set h1 with h2 | rfl
    · exact h.2 l h2
    · exact hg b hb
  · exact hg a ha
theorem sq_set {n:Nat} {V:Mt} (h:Sq n V) {i:Nat} {l:List Int} (hl:l.length=n):Sq n (V.set i l):=by
  refine ⟨by rw [List.length_set];exact h.1,fun m hm=>?_⟩
  rcases List.mem_or_eq_of_mem_set hm with h1 | rfl
  · exact h.2 m h1
  · exact hl
theorem sq_getD {n:Nat} {V:Mt} (h:Sq n V) {i:Nat} (hi:i<n):(V.getD i []).length=n:=by
  have hl:i<V.length:=by rw [h.1];exact hi
  rw [List.getD_eq_getElem?_getD,List.getElem?_eq_getElem hl]
  exact h.2 _ (List.getElem_mem hl)
theorem sq_swC {n:Nat} {V:Mt} (h:Sq n V) {a b:Nat}:∀ {k:Nat},k≤n→Sq n (swC a b k V)
  | 0,_=>h
  | k+1,hk=>by
    have ih:=sq_swC h (a:=a) (b:=b) (k:=k) (by omega)
    refine sq_set ih ?_
    unfold swL
    rw [List.length_set,List.length_set]
    exact sq_getD ih (by omega)
section
variable {N:Nums} {P:Program} (H:AllOk N P)
include H
theorem wk_pivot {w0 w:World} {L:List It} {q:Nat} {O:Hd} {low:Value} {M:List Rw} {n at_:Nat} {b:Bool} {V':Mt} (hq:Sq n (vals M)) (hn:n≤1073741824) (ha:at_<n) (hx:pivotT n (vals M) at_=some (b,V'))
    (hS:Ho w0 w (MQ N q O low M L)) {K:Value→World→Prop}
    (hK:∀ (M':List Rw) (w1:World),vals M'=V'→Sq n V'→(∀ i j,i<at_→j<at_→pt M' i j=pt M i j)→Ho w0 w1 (MQ N q O low M' L)→K (.bool b) w1) :
    CallsX P N.f_p_inertia_rows_pivot #[.pointer (some ⟨q,0,none⟩),.int .i64 (at_:Int)] w K:=by
  refine H.p_inertia_rows_pivot _ _ w _ ?_
  unfold S_p_inertia_rows_pivot
  refine wk_find H hq hn (Nat.le_of_lt ha) hS ?_
  clear hS;intro w hS
  refine ⟨_,_,rfl,?_⟩
  unfold pivotT at hx
  cases hf:findT n (vals M) at_ with
  | none=>
    rw [hf] at hx
    have hx:=Option.some.inj hx
    cases hx
    refine cond_i (fun _=>?_) (fun hc=>?_)
    · exact hK M w rfl hq (fun _ _ _ _=>rfl) hS
    · simp [plV] at hc
  | some rc=>
    obtain ⟨row,col⟩:=rc
    rw [hf] at hx
    dsimp only at hx
    obtain ⟨h1,h2,h3⟩:=findT_in (Nat.le_of_lt ha) hf
    obtain ⟨V1,hV1,hx⟩:=bnd hx
    have hx:=Option.some.inj hx
    cases hx
    unfold plV
    dsimp only
    refine cond_i (fun hc=>?_) (fun _=>?_)
    · simp at hc;omega
    refine cutM_i (fun _ w=>∃ M1:List Rw,vals M1=V1∧Sq n V1∧(∀ i j,pt M1 i j=pt M i j)∧Ho w0 w (MQ N q O low M1 L)) (fun J hJ=>?_) ?_
    · refine cond_i (fun hc=>?_) (fun hc=>?_)
      · have hne:row≠col:=by
          intro e;subst e;simp at hc
        rw [decide_eq_true hne,cT] at hV1
        obtain ⟨V2,hV2,hV1⟩:=bnd hV1
        refine optM_s ⟨_,_,_,hS.mxHd,?_⟩
        have hO:=hS.mxLen
        have hMl:M.length=n:=by rw [← vals_len];exact hq.1
        rw [hO,hMl]
        refine cutM_i (fun _ w=>∃ M1:List Rw,vals M1=V2∧Sq n V2∧(∀ i j,pt M1 i j=pt M i j)∧Ho w0 w (MQ N q O low M1 L)) (fun J2 hJ2=>?_) ?_
        · refine loop_n (fun k s w=>s=((k:Int),())∧∃ M1:List Rw,foldO (fun k V=>(bigAdd (ent V row k) (ent V col k)).bind fun y=>some (setE V row k y)) k (vals M)=some (vals M1)∧Sq n (vals M1)∧(∀ i j,pt M1 i j=pt M i j)∧Ho w0 w (MQ N q O low M1 L)) n ⟨rfl,M,rfl,hq,fun _ _=>rfl,hS⟩ ?_ ?_
          · rintro k s w X hk ⟨rfl,M1,hf1,hq1,hp1,hS⟩ hX
            dsimp only
            refine cond_i (fun _=>?_) (fun hc=>?_)
            rotate_left
            · simp at hc;omega
            obtain ⟨x,d,hx,hd,hz,_⟩:=sq_ent hq1 (i:=row) (j:=k) (by omega) hk
            obtain ⟨x2,d2,hx2,hd2,hz2,_⟩:=sq_ent hq1 (i:=col) (j:=k) (by omega) hk
            obtain ⟨V3,hV3,hf3⟩:=foldO_at hV2 hk hf1
            obtain ⟨y,hy,hV3⟩:=bnd hV3
            obtain rfl:=Option.some.inj hV3
            refine rd_ent hS hx hd rfl rfl ?_
            intro a1 b1 _ _
            refine rd_ent hS hx hd rfl rfl ?_
            intro a2 b2 _ _
            refine rd_ent hS hx2 hd2 rfl rfl ?_
            intro a3 b3 _ _
            refine drM_s hS ?_;clear hS;intro w hS
            rw [← hz,← hz2] at hy
            refine big_Add_zzy H (hS.mxOut hx hd) (mxBut_mem hx hx2 hd2 (.inl (fun e=>hne e.symm))) hy ?_
            intro a4 n4 c4 w hS4
            have hS5:=Ho.mxIn (d':=⟨d.r,a4,n4,c4,y⟩) hx hd rfl hS4
            refine ⟨_,rfl,?_⟩
            refine drM_s hS5 ?_;intro w hS6
            refine hX _ _ ⟨by rw [wrU (by omega)],_,?_,?_,?_,hS6⟩
            · rw [vals_setE hx];exact hf3
            · rw [vals_setE hx];exact sq_setE hq1 (by omega)
            · intro i j;rw [pt_set (d':=⟨d.r,a4,n4,c4,y⟩) hx hd rfl];exact hp1 i j
          · rintro s w X ⟨rfl,M1,hf1,hq1,hp1,hS⟩
            dsimp only
            refine cond_i (fun hc=>?_) (fun _=>?_)
            · simp at hc
            have:some (vals M1)=some V2:=hf1.symm.trans hV2
            obtain rfl:=Option.some.inj this
            exact hJ2 _ _ ⟨M1,rfl,hq1,hp1,hS⟩
        · rintro s w ⟨M1,rfl,hq1,hp1,hS⟩
          refine optM_s ⟨_,_,_,hS.mxHd,?_⟩
          have hO:=hS.mxLen
          have hMl1:M1.length=n:=by rw [← vals_len];exact hq1.1
          rw [hO,hMl1]
          refine cutM_i (fun _ w=>∃ M2:List Rw,vals M2=V1∧Sq n V1∧(∀ i j,pt M2 i j=pt M i j)∧Ho w0 w (MQ N q O low M2 L)) (fun J3 hJ3=>?_) ?_
          · refine loop_n (fun k s w=>s=((k:Int),())∧∃ M2:List Rw,foldO (fun k V=>(bigAdd (ent V k row) (ent V k col)).bind fun y=>some (setE V k row y)) k (vals M1)=some (vals M2)∧Sq n (vals M2)∧(∀ i j,pt M2 i j=pt M i j)∧Ho w0 w (MQ N q O low M2 L)) n ⟨rfl,M1,rfl,hq1,hp1,hS⟩ ?_ ?_
            · rintro k s w X hk ⟨rfl,M2,hf2,hq2,hp2,hS⟩ hX
              dsimp only
              refine cond_i (fun _=>?_) (fun hc=>?_)
              rotate_left
              · simp at hc;omega
              obtain ⟨x,d,hx,hd,hz,_⟩:=sq_ent hq2 (i:=k) (j:=row) hk (by omega)
              obtain ⟨x2,d2,hx2,hd2,hz2,_⟩:=sq_ent hq2 (i:=k) (j:=col) hk (by omega)
              obtain ⟨V3,hV3,hf3⟩:=foldO_at hV1 hk hf2
              obtain ⟨y,hy,hV3⟩:=bnd hV3
              obtain rfl:=Option.some.inj hV3
              refine rd_ent hS hx hd rfl rfl ?_
              intro a1 b1 _ _
              refine rd_ent hS hx hd rfl rfl ?_
              intro a2 b2 _ _
              refine rd_ent hS hx2 hd2 rfl rfl ?_
              intro a3 b3 _ _
              refine drM_s hS ?_;clear hS;intro w hS
              rw [← hz,← hz2] at hy
              refine big_Add_zzy H (hS.mxOut hx hd) (mxBut_mem hx hx2 hd2 (.inr (fun e=>hne e.symm))) hy ?_
              intro a4 n4 c4 w hS4
              have hS5:=Ho.mxIn (d':=⟨d.r,a4,n4,c4,y⟩) hx hd rfl hS4
              refine ⟨_,rfl,?_⟩
              refine drM_s hS5 ?_;intro w hS6
              refine hX _ _ ⟨by rw [wrU (by omega)],_,?_,?_,?_,hS6⟩
              · rw [vals_setE hx];exact hf3
              · rw [vals_setE hx];exact sq_setE hq2 hk
              · intro i j;rw [pt_set (d':=⟨d.r,a4,n4,c4,y⟩) hx hd rfl];exact hp2 i j
            · rintro s w X ⟨rfl,M2,hf2,hq2,hp2,hS⟩
              dsimp only
              refine cond_i (fun hc=>?_) (fun _=>?_)
              · simp at hc
              have:some (vals M2)=some V1:=hf2.symm.trans hV1
              obtain rfl:=Option.some.inj this
              exact hJ3 _ _ ⟨M2,rfl,hq2,hp2,hS⟩
          · rintro s w h
            exact hJ _ _ h
      · have he:row=col:=by
          simp at hc;omega
        rw [decide_eq_false (by omega),cF] at hV1
        obtain rfl:=Option.some.inj hV1
        exact hJ _ _ ⟨M,rfl,hq,fun _ _=>rfl,hS⟩
    · rintro s w ⟨M1,rfl,hq1,hp1,hS⟩
      obtain ⟨x,hx,hxl⟩:=sq_row hq1 (i:=at_) ha
      obtain ⟨y,hy,hyl⟩:=sq_row hq1 (i:=row) h3
      refine optM_s ⟨_,_,_,hS.mxHd,?_⟩
      refine optM_s ⟨_,_,_,hS.mxHd,?_⟩
      refine rd_row hS hy rfl ?_
      intro a1 _
      refine rd_row hS hx rfl ?_
      intro a2 ha2
      have hO:=hS.mxLen
      have hMl1:M1.length=n:=by rw [← vals_len];exact hq1.1
      refine ⟨by omega,by omega,?_⟩
      rw [ha2]
      refine optM_s ?_
      refine drM_s hS ?_;clear hS;intro w hS
      refine sto_s (ws:=M1.map Prod.fst) (enc:=hdV) (y:=y.1) hS.mxHeads ha2 (by simp;omega) ?_
      clear hS;intro w hS
      refine ⟨by omega,by omega,?_⟩
      refine optM_s ?_
      refine drM_s hS ?_;clear hS;intro w hS
      refine sto_s (ws:=(M1.map Prod.fst).set ((at_:Nat):Int).toNat y.1) (enc:=hdV) (y:=x.1) hS ha2 (by simp;omega) ?_
      clear hS;intro w hS
      refine drM_s hS ?_;clear hS;intro w hS
      rw [Int.toNat_natCast,Int.toNat_natCast] at hS
      have hS:=Ho.mxRows (I:=N.t_bn_Int) (E:=N.t_uint32) (tL:=N.t_p_bn_Int) hx hy hS
      have hv2:=vals_swR hx hy
      have hq2:Sq n (vals ((M1.set at_ y).set row x)):=by rw [hv2];exact sq_swR hq1 ha h3
      have hp2:∀ i j,i<at_→j<at_→pt ((M1.set at_ y).set row x) i j=pt M i j:=by
        intro i j hi hj
        rw [← hp1 i j]
        unfold pt
        rw [List.getElem?_set_ne (by omega),List.getElem?_set_ne (by omega)]
      rw [← hv2] at hK
      generalize (M1.set at_ y).set row x=M2 at *
      refine optM_s ⟨_,_,_,hS.mxHd,?_⟩
      have hO2:=hS.mxLen
      have hMl2:M2.length=n:=by rw [← vals_len];exact hq2.1
      rw [hO2,hMl2]
      refine cutM_i (fun _ w=>∃ M3:List Rw,vals M3=swC at_ row n (vals M2)∧Sq n (vals M3)∧(∀ i j,i<at_→j<at_→pt M3 i j=pt M i j)∧Ho w0 w (MQ N q O low M3 L)) (fun J2 hJ2=>?_) ?_
      · refine loop_n (fun k s w=>s=((k:Int),())∧∃ M3:List Rw,vals M3=swC at_ row k (vals M2)∧Sq n (vals M3)∧(∀ i j,i<at_→j<at_→pt M3 i j=pt M i j)∧Ho w0 w (MQ N q O low M3 L)) n ⟨rfl,M2,rfl,hq2,hp2,hS⟩ ?_ ?_
        · rintro k s w X hk ⟨rfl,M3,hv3,hq3,hp3,hS⟩ hX
          dsimp only
          refine cond_i (fun _=>?_) (fun hc=>?_)
          rotate_left
          · simp at hc;omega
          obtain ⟨x,u,hx,hu,hzu,hxl⟩:=sq_ent hq3 (i:=k) (j:=at_) hk ha
          obtain ⟨x',v,hx',hv,hzv,_⟩:=sq_ent hq3 (i:=k) (j:=row) hk h3
          rw [hx] at hx';cases hx'
          refine rd_row hS hx rfl ?_
          intro a1 _
          refine rd_row hS hx rfl ?_
          intro a2 _
          refine rd_ent hS hx hv rfl rfl ?_
          intro a3 b3 _ _
          refine rd_ent hS hx hu rfl rfl ?_
          intro a4 b4 _ hb4
          have hrl:=(hS.mxRr hx).len
          simp only [List.length_map] at hrl
          refine ⟨by omega,by omega,?_⟩
          rw [hb4]
          refine optM_s ?_
          refine drM_s hS ?_;clear hS;intro w hS
          refine sto_s (ws:=x.2.map BgD.r) (enc:=ptrV) (y:=v.r) (hS.mxRow hx) hb4 (by simp;omega) ?_
          clear hS;intro w hS
          refine ⟨by omega,by omega,?_⟩
          refine optM_s ?_
          refine drM_s hS ?_;clear hS;intro w hS
          refine sto_s (ws:=(x.2.map BgD.r).set ((at_:Nat):Int).toNat v.r) (enc:=ptrV) (y:=u.r) hS hb4 (by simp;omega) ?_
          clear hS;intro w hS
          refine drM_s hS ?_;clear hS;intro w hS
          rw [Int.toNat_natCast,Int.toNat_natCast] at hS
          have hS:=Ho.mxCols hx hu hv hS
          refine hX _ _ ⟨by rw [wrU (by omega)],_,?_,?_,?_,hS⟩
          · rw [vals_set]
            show _=(swC at_ row k (vals M2)).set k (swL ((swC at_ row k (vals M2)).getD k []) at_ row)
            rw [← hv3]
            dsimp only
            rw [List.map_set,List.map_set]
            unfold swL
            have e:(vals M3).getD k []=x.2.map BgD.z:=by rw [List.getD_eq_getElem?_getD,vals_row hx];rfl
            rw [e,map_getD _ hu,map_getD _ hv]
          · rw [vals_set]
            refine sq_set hq3 ?_
            simp
            exact hxl
          · intro i j hi hj
            rw [← hp3 i j hi hj]
            unfold pt
            by_cases e:i=k
            · subst e
              rw [List.getElem?_set_self (get_lt hx),hx,Option.bind_some,Option.bind_some,List.getElem?_set_ne (by omega),List.getElem?_set_ne (by omega)]
            · rw [List.getElem?_set_ne (by omega)]
        · rintro s w X ⟨rfl,M3,hv3,hq3,hp3,hS⟩
          dsimp only
          refine cond_i (fun hc=>?_) (fun _=>?_)
          · simp at hc
          exact hJ2 _ _ ⟨M3,hv3,hq3,hp3,hS⟩
      · rintro s w ⟨M3,hv3,hq3,hp3,hS⟩
        exact hK M3 w hv3 (by rw [← hv3];exact hq3) hp3 hS
end
end Go.Eng
