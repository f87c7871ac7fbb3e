/-
  inertia, the document's answer: its coefficients by value. No condition.
-/
import Derived.Test.YtlnelldekejadaaGreatIn11
import Derived.Test.YtlnelldekejadaaGreatRt
import Derived.Test.YtlnelldekejadaaGreatDyN
import Derived.Test.YtlnelldekejadaaGreatWkL
import Derived.Test.YtlnelldekejadaaGreatLentU
import Derived.Test.YtlnelldekejadaaGreatPl
import Derived.Test.YtlnelldekejadaaGreatDy5
import Derived.Test.YtlnelldekejadaaGreatRow5
set_option linter.all false
set_option maxRecDepth 100000
set_option maxHeartbeats 4000000
open Go.IntKind (i64 u64)
open Option renaming bind_some→AA
open Int renaming toNat_natCast→AB,zero_mul→AM,mul_comm→AS,natCast_mul→AU,natAbs_neg→AV
open List renaming getD_eq_getElem?_getD→AC,getElem?_eq_getElem→AD,getElem?_append_left→AG,getElem_mem→AI,length_set→AJ,getElem?_append_right→AO,take_add_one→AP,take_of_length_le→AT,getElem_of_mem→AW,append_assoc→AX,append_nil→AZ
open Nat renaming mul_le_mul→AE,le_trans→AF,eq_zero_or_pos→AK,two_pow_pos→AL,succ_mul→AQ,mul_comm→AR,pow_add→AY
open Go.Value renaming int→AH
open Bool renaming not_false→AN
namespace Go.Eng
open Go Go.Ine
def Nu (k:Nat) (z:Int) (d:Dy):Prop:=∃ v:Nat,d.2.1=LW v ∧ -65536*(k:Int)≤d.2.2∧d.2.2≤65536*(k:Int)∧nv (-65536*(k:Int)) d.1 v d.2.2=z
section
variable {k j n:Nat} {z y:Int} {d e:Dy} {B:Nat}
theorem Nu.nil (k:Nat):Nu k 0 (false,[],0):=⟨0,by decide +kernel,by dsimp only;omega,by dsimp only;omega,Cd4 _ _ _⟩
theorem Nu.one:Nu 0 1 (false,[1],0):=⟨1,by decide +kernel,by decide,by decide,by decide +kernel⟩
theorem Cb7:Ah9 0=some (false,[],0):=by decide +kernel
theorem Ej1:Ah9 1=some (false,[1],0):=by decide +kernel
theorem Dn8 {K:Int} {s:Bool} {v:Nat} {e:Int} (h:nv K s v e=z) (hz:z.natAbs≤2^B):blN v≤B+1:=by
 have f:=Cq2 K s v e
 rw [h] at f
 have hp:=AL (e-K).toNat
 have h2:v≤v*2^(e-K).toNat:=Nat.le_mul_of_pos_right _ hp
 exact Ap3.2 (Nat.lt_of_le_of_lt (AF h2 (f ▸ hz)) (Nat.pow_lt_pow_right (by decide) (by omega)))
theorem Nu.plus (h:Nu k z d) (g:Nu k y e) (hk:k≤400) (hB:B≤33000000) (hz:z.natAbs≤2^B) (hy:y.natAbs≤2^B):∃ f,Ao8 d.1 d.2.1 d.2.2 e.1 e.2.1 e.2.2=some f∧Nu k (z+y) f:=by
 obtain ⟨v,a1,a2,a3,o⟩:=h
 obtain ⟨u,b1,b2,b3,r⟩:=g
 obtain ⟨s,p,q,h1,h2,h3,h4⟩:=Fz8 (s:=d.1) (t:=e.1) (n:=v) (k:=u) (e:=d.2.2) (f:=e.2.2) (AF (Dn8 o hz) (by omega)) (AF (Dn8 r hy) (by omega)) (by omega) (by omega) (by omega) (by omega)
 rw [a1,b1]
 exact ⟨_,h1,p,rfl,by dsimp only;omega,by dsimp only;omega,by rw [← o,← r];exact h4 _ a2 b2⟩
theorem Nu.times (h:Nu j z d) (g:Nu k y e) (hk:j+k≤400) (hB:B≤33000000) (hz:z.natAbs≤2^B) (hy:y.natAbs≤2^B):∃ f,Aq6 d.1 d.2.1 d.2.2 e.1 e.2.1 e.2.2=some f∧Nu (j+k) (z*y) f:=by
 obtain ⟨v,r,t,a3,o⟩:=h
 obtain ⟨u,s,b2,b3,q⟩:=g
 rw [r,s,Gi3 (AF (Dn8 o hz) (by omega)) (AF (Dn8 q hy) (by omega)) (by omega) (by omega) (by omega) (by omega)]
 refine ⟨_,rfl,v*u,rfl,by dsimp only;omega,by dsimp only;omega,?_⟩
 rw [← o,← q]
 unfold nv
 dsimp only
 rw [Fq9,show (d.2.2+e.2.2 - -65536*((j+k:Nat):Int)).toNat=(d.2.2 - -65536*(j:Int)).toNat+(e.2.2 - -65536*(k:Int)).toNat by omega,AY,AU]
 generalize ((2^(d.2.2 - -65536*(j:Int)).toNat:Nat):Int)=P
 generalize ((2^(e.2.2 - -65536*(k:Int)).toNat:Nat):Int)=Q
 grind
theorem Nu.minus (h:Nu k z d):Ap8 d.1 d.2.1 d.2.2=some (!d.1,d.2.1,d.2.2)∧Nu k (-z) (!d.1,d.2.1,d.2.2):=by
 obtain ⟨v,f,g,o,q⟩:=h
 exact ⟨rfl,v,f,g,o,by rw [← q];exact Eq1 _ _ _ _⟩
theorem Nu.sign (h:Nu k z d) (hB:B≤33000000) (hz:z.natAbs≤2^B):Af7 d.1 d.2.1 d.2.2=some (sgZ' z):=by
 obtain ⟨v,g,o,q,f⟩:=h
 rw [g,Dl5 (AF (Dn8 f hz) (by omega)) (-65536*(k:Int)),f]
end
theorem Gu7 {f:Nat→Int} {q:Nat}:∀ j:Nat,(∀ l,l<j→(f l).natAbs≤q)→(sI j f).natAbs≤j*q
 | 0,_=>by unfold sI;simp
 | j+1,h=>by
   have g:=Gu7 j fun l hl=>h l (by omega)
   have h2:=h j (by omega)
   unfold sI
   rw [AQ]
   omega
theorem Ew4 {f:Nat→Int} {q j:Nat} (hj:j≤16) (h:∀ l,l<j→(f l).natAbs≤2^q):(sI j f).natAbs≤2^(q+4):=by
 refine AF (Gu7 j h) ?_
 rw [AY,AR]
 exact Nat.mul_le_mul_left _ hj
theorem Dw9 {x y:Int} {p q r:Nat} (hx:x.natAbs≤2^p) (hy:y.natAbs≤2^q) (hr:p+q=r):(x*y).natAbs≤2^r:=by
 rw [Int.natAbs_mul,← hr,AY]
 exact AE hx hy
theorem Cb0 {x:Int} {p q:Nat} (hx:x.natAbs≤2^p) (h:p≤q):x.natAbs≤2^q:=AF hx (Nat.pow_le_pow_right (by decide) h)
section
variable {A:Nat→Nat→Int} {b m:Nat}
theorem Gk3 (hA:∀ i j,(A i j).natAbs≤2^b) (hm:m≤16):∀ r i:Nat,(wZ A m r i).natAbs≤2^((r+1)*(b+4))
 | 0,i=>Cb0 (hA i m) (by omega)
 | r+1,i=>by
   have h:=Ew4 (f:=fun l=>A i l*wZ A m r l) hm fun l hl=>Dw9 (hA i l) (Gk3 hA hm r l) rfl
   refine Cb0 h ?_
   rw [AQ (r+1)]
   omega
theorem Gz2 (hA:∀ i j,(A i j).natAbs≤2^b) (hm:m≤16) (r:Nat):(hZ A m r).natAbs≤2^((r+2)*(b+4)):=by
 have h:=Ew4 (f:=fun l=>A m l*wZ A m r l) hm fun l hl=>Dw9 (hA m l) (Gk3 hA hm r l) rfl
 refine Cb0 h ?_
 rw [AQ (r+1)]
 omega
theorem Gr9 (hA:∀ i j,(A i j).natAbs≤2^b) (hm:m≤16):∀ k:Nat,(bZ A m k).natAbs≤2^(k*(b+4))
 | 0=>by show (1:Int).natAbs≤2^(0*(b+4));rw [Nat.zero_mul];decide
 | 1=>by
   show (- A m m).natAbs≤_
   rw [AV]
   exact Cb0 (hA m m) (by omega)
 | k+2=>by
   show (- hZ A m k).natAbs≤_
   rw [AV]
   exact Gz2 hA hm k
theorem Gb3 (hA:∀ i j,(A i j).natAbs≤2^b) (hm:m≤16) {k q:Nat} (hb:∀ i,i≤k→(beZ A m i).natAbs≤2^(i*(b+4)+q)) {i:Nat} (hi:i≤k):(beZ A m i*bZ A m (k-i)).natAbs≤2^(k*(b+4)+q):=by
 refine Dw9 (hb i hi) (Gr9 hA hm (k-i)) ?_
 have:k*(b+4)=i*(b+4)+(k-i)*(b+4):=by rw [← Nat.add_mul];congr 1;omega
 omega
theorem Em4 (hA:∀ i j,(A i j).natAbs≤2^b):∀ (m k:Nat),m≤16→k≤15→(beZ A m k).natAbs≤2^(k*(b+4)+4*m)
 | 0,k,_,_=>by
   show (if k=0 then 1 else 0:Int).natAbs≤_
   have:=AL (k*(b+4)+4*0)
   split
   · show 1≤_;omega
   · show 0≤_;omega
 | m+1,k,hm,hk=>by
   have h:=Ew4 (f:=fun i=>beZ A m i*bZ A m (k-i)) (j:=k+1) (q:=k*(b+4)+4*m) (by omega) fun i hi=>Gb3 hA (by omega) (fun i g=>Em4 hA m i (by omega) (by omega)) (by omega)
   exact Cb0 h (by omega)
end
end Go.Eng
/-
  inertia, the document's answer: its coefficients, loop by loop. No condition.
-/
namespace Go.Eng
open Go Go.Ine
abbrev dz:Dy:=(false,[],0)
def NuL (q:Nat→Nat) (z:Nat→Int) (l:List Dy) (n:Nat):Prop:=l.length=n∧∀ i,i<n→Nu (q i) (z i) (l.getD i dz)
structure NuM (A:Nat→Nat→Int) (n b:Nat) (D:List Dy):Prop where
 le:n≤8
 len:D.length=n*n
 at_:∀ i j,i<n→j<n→Nu 1 (A i j) (D.getD (i*n+j) dz)
 bd:∀ i j,(A i j).natAbs≤2^b
 hb:b≤150000
theorem Ca7 {l:List Dy} {i j:Nat} {d:Dy} (h:i<l.length):(l.set i d).getD j dz=if i=j then d else l.getD j dz:=by
 rw [AC,List.getElem?_set]
 by_cases c:i=j
 · subst c
   rw [if_pos rfl,if_pos h,if_pos rfl];rfl
 · rw [if_neg c,if_neg c,AC]
theorem bB {x:Int} {b k q B:Nat} (hB:B=3000000) (h:x.natAbs≤2^(k*(b+4)+q)) (hb:b≤150000) (hk:k≤12) (hq:q≤100):x.natAbs≤2^B:=Cb0 h (by
 have:k*(b+4)≤12*150004:=AE hk (by omega)
 omega)
section
variable {A:Nat→Nat→Int} {n b k p i:Nat} {D c:List Dy} {y:Nat→Int}
theorem NuM.nn (hD:NuM A n b D):n*n≤64:=AE hD.le hD.le
theorem NuM.ix (hD:NuM A n b D) {i j:Nat} (hi:i<n) (hj:j<n):atI D (i64.wrap (i64.wrap ((i:Int)*(n:Int))+(j:Int)))=some (D.getD (i*n+j) dz):=by
 have:=hD.nn
 have h2:i*n+j<n*n:=by
  have:=Nat.mul_le_mul_right n (show i+1≤n by omega)
  rw [AQ] at this
  omega
 rw [Fa7 hi hj (by omega),Ac1 dz (by rw [hD.len];exact h2)]
theorem Gm8 (hD:NuM A n b D) (hk:k<n) (hc:NuL (fun _=>p+1) y c k) (hp:p≤8) (hy:∀ i,i<k→(y i).natAbs≤2^((p+1)*(b+4))) :
 ∃ o,Af5 (Ae3 (k:Int) D (n:Int) c) FU (0,false,0,[])=some o∧Nu (p+2) (sI k fun i=>A k i*y i) (o.1,o.2.2,o.2.1):=by
 have hn:=hD.le
 obtain ⟨B,hB⟩:∃ B:Nat,B=3000000:=⟨_,rfl⟩
 have hb:=hD.hb
 have q:∀ i,i<k→(A k i*y i).natAbs≤2^(b+(p+1)*(b+4)):=fun i hi=>Dw9 (hD.bd k i) (hy i hi) rfl
 have hm:(p+1)*(b+4)≤12*150004:=AE (by omega) (by omega)
 refine Ag0 (b:=Ae3 (k:Int) D (n:Int) c) (fun i s=>s.1=(i:Int)∧Nu (p+2) (sI i fun i=>A k i*y i) (s.2.1,s.2.2.2,s.2.2.1)) k (fun o=>Nu (p+2) (sI k fun i=>A k i*y i) (o.1,o.2.2,o.2.1)) (by rw [Af4];omega) (fun i s hi h=>?_) (fun s h=>?_) ⟨rfl,Nu.nil _⟩
 · obtain ⟨j,s,e,l⟩:=s
   obtain ⟨g,h2⟩:=h
   dsimp only at g h2
   subst g
   unfold Ae3
   dsimp only
   have hci:Nu (p+1) (y i) (c.getD i dz):=hc.2 i hi
   obtain ⟨⟨u,m,f⟩,v,r⟩:=(hD.at_ k i hk (by omega)).times hci (B:=B) (by omega) (by omega) (Cb0 (hD.bd k i) (by omega)) (Cb0 (hy i hi) (by omega))
   rw [show 1+(p+1)=p+2 by omega] at r
   obtain ⟨⟨u2,m2,f2⟩,t,b2⟩:=h2.plus r (B:=B) (by omega) (by omega) (Cb0 (Ew4 (by omega) fun l hl=>q l (by omega)) (by omega)) (Cb0 (q i hi) (by omega))
   dsimp only at t
   rw [Ab0 (by simp;omega),hD.ix hk (by omega),AA,Ac1 dz (by rw [hc.1];exact hi),AA,v,AA]
   dsimp only
   rw [t,AA,wrU (by omega)]
   exact ⟨_,rfl,rfl,b2⟩
 · obtain ⟨j,s,e,l⟩:=s
   obtain ⟨g,h2⟩:=h
   dsimp only at g h2
   subst g
   unfold Ae3
   dsimp only
   rw [Ab1 (by simp)]
   exact ⟨_,rfl,h2⟩
theorem Go8 (hD:NuM A n b D) (hk:k<n) (hi:i<k) {L:List Dy} (hL:L.length=k) (hc:NuL (fun _=>p+1) y c k) (hp:p≤8) (hy:∀ i,i<k→(y i).natAbs≤2^((p+1)*(b+4))) :
 ∃ o,Af5 (Ae4 (k:Int) (i:Int) D (n:Int) c) FU (0,L.set i dz)=some o∧∃ d,o=L.set i d∧Nu (p+2) (sI k fun l=>A i l*y l) d:=by
 have hn:=hD.le
 obtain ⟨B,hB⟩:∃ B:Nat,B=3000000:=⟨_,rfl⟩
 have hb:=hD.hb
 have r:∀ l,l<k→(A i l*y l).natAbs≤2^(b+(p+1)*(b+4)):=fun l hl=>Dw9 (hD.bd i l) (hy l hl) rfl
 have hm:(p+1)*(b+4)≤12*150004:=AE (by omega) (by omega)
 refine Ag0 (b:=Ae4 (k:Int) (i:Int) D (n:Int) c) (fun j s=>s.1=(j:Int)∧∃ d,s.2=L.set i d∧Nu (p+2) (sI j fun l=>A i l*y l) d) k (fun o=>∃ d,o=L.set i d∧Nu (p+2) (sI k fun l=>A i l*y l) d) (by rw [Af4];omega) (fun j s hj h=>?_) (fun s h=>?_) ⟨rfl,_,rfl,Nu.nil _⟩
 · obtain ⟨q,s⟩:=s
   obtain ⟨g,d,h2,h3⟩:=h
   dsimp only at g h2
   subst g h2
   unfold Ae4
   dsimp only
   have hat:atI (L.set i d) (i:Int)=some d:=by
    rw [Ac1 dz (by rw [AJ];omega),Ca7 (by omega),if_pos rfl]
   have hci:Nu (p+1) (y j) (c.getD j dz):=hc.2 j hj
   obtain ⟨⟨u,m,f⟩,a1,t⟩:=(hD.at_ i j (by omega) (by omega)).times hci (B:=B) (by omega) (by omega) (Cb0 (hD.bd i j) (by omega)) (Cb0 (hy j hj) (by omega))
   rw [show 1+(p+1)=p+2 by omega] at t
   obtain ⟨⟨u2,m2,f2⟩,v,b2⟩:=h3.plus t (B:=B) (by omega) (by omega) (Cb0 (Ew4 (by omega) fun l hl=>r l (by omega)) (by omega)) (Cb0 (r j hj) (by omega))
   rw [Ab0 (by simp;omega),hat,AA,hD.ix (by omega) (by omega),AA,Ac1 dz (by rw [hc.1];exact hj),AA,a1,AA]
   dsimp only at v ⊢
   rw [v,AA]
   dsimp only
   rw [AA,AA,wrU (by omega),AB,List.set_set]
   exact ⟨_,rfl,rfl,_,rfl,b2⟩
 · obtain ⟨q,s⟩:=s
   obtain ⟨g,h2⟩:=h
   dsimp only at g h2
   subst g
   unfold Ae4
   dsimp only
   rw [Ab1 (by simp)]
   exact ⟨_,rfl,h2⟩
theorem Gj8 (hD:NuM A n b D) (hk:k<n) (hc:NuL (fun _=>p+1) y c k) (hp:p≤8) (hy:∀ i,i<k→(y i).natAbs≤2^((p+1)*(b+4))) {L:List Dy} (hL:L.length=k) :
 ∃ o,Af5 (Ae6 (k:Int) D (n:Int) c) FU (0,L)=some o∧NuL (fun _=>p+2) (fun i=>sI k fun l=>A i l*y l) o k:=by
 have hn:=hD.le
 refine Ag0 (b:=Ae6 (k:Int) D (n:Int) c) (fun i s=>s.1=(i:Int)∧s.2.length=k∧∀ j,j<i→Nu (p+2) (sI k fun l=>A j l*y l) (s.2.getD j dz)) k (fun o=>NuL (fun _=>p+2) (fun i=>sI k fun l=>A i l*y l) o k) (by rw [Af4];omega) (fun i s hi h=>?_) (fun s h=>?_) ⟨rfl,hL,fun j h=>by omega⟩
 · obtain ⟨q,s⟩:=s
   obtain ⟨f,h2,g⟩:=h
   dsimp only at f h2 g
   subst f
   unfold Ae6
   dsimp only
   obtain ⟨o,r,d,rfl,t⟩:=Go8 hD hk hi h2 hc hp hy
   rw [Ab0 (by simp;omega),Cb7,AA]
   dsimp only
   rw [Ac1 dz (by omega),AA,AA,AB,r,AA,wrU (by omega)]
   refine ⟨_,rfl,rfl,by rw [AJ];exact h2,fun j hj=>?_⟩
   dsimp only
   rw [Ca7 (by omega)]
   by_cases e:i=j
   · subst e;rw [if_pos rfl];exact t
   · rw [if_neg e];exact g j (by omega)
 · obtain ⟨q,s⟩:=s
   obtain ⟨f,h2,g⟩:=h
   dsimp only at f h2 g
   subst f
   unfold Ae6
   dsimp only
   rw [Ab1 (by simp)]
   exact ⟨_,rfl,h2,g⟩
theorem Gn4 (hD:NuM A n b D) (hk:k<n) {L:List Dy} (hL:L.length=k):∃ o,Af5 (Ae5 (k:Int) D (n:Int)) FU (0,L)=some o∧NuL (fun _=>1) (wZ A k 0) o k:=by
 have hn:=hD.le
 refine Ag0 (b:=Ae5 (k:Int) D (n:Int)) (fun i s=>s.1=(i:Int)∧s.2.length=k∧∀ j,j<i→Nu 1 (A j k) (s.2.getD j dz)) k (fun o=>NuL (fun _=>1) (wZ A k 0) o k) (by rw [Af4];omega) (fun i s hi h=>?_) (fun s h=>?_) ⟨rfl,hL,fun j h=>by omega⟩
 · obtain ⟨q,s⟩:=s
   obtain ⟨f,h2,g⟩:=h
   dsimp only at f h2 g
   subst f
   unfold Ae5
   dsimp only
   rw [Ab0 (by simp;omega),hD.ix (by omega) hk,AA,Ac1 dz (by omega),AA,AA,AB,wrU (by omega)]
   refine ⟨_,rfl,rfl,by rw [AJ];exact h2,fun j hj=>?_⟩
   dsimp only
   rw [Ca7 (by omega)]
   by_cases e:i=j
   · subst e;rw [if_pos rfl];exact hD.at_ i k (by omega) hk
   · rw [if_neg e];exact g j (by omega)
 · obtain ⟨q,s⟩:=s
   obtain ⟨f,h2,g⟩:=h
   dsimp only at f h2 g
   subst f
   unfold Ae5
   dsimp only
   rw [Ab1 (by simp)]
   exact ⟨_,rfl,h2,g⟩
theorem NuL.snoc {q:Nat→Nat} {z:Nat→Int} {l:List Dy} {n:Nat} {d:Dy} (h:NuL q z l n) (hd:Nu (q n) (z n) d):NuL q z (l ++ [d]) (n+1):=by
 refine ⟨by simp [h.1],fun i hi=>?_⟩
 by_cases e:i=n
 · subst e
   rw [AC,← h.1,List.getElem?_concat_length,h.1];exact hd
 · have:(l ++ [d]).getD i dz=l.getD i dz:=by
    rw [AC,AG (by have:=h.1;omega),AC]
   rw [this];exact h.2 i (by omega)
theorem Gy8 (hD:NuM A n b D) (hk:k<n) {l0 t:List Dy} (hl:NuL (fun q=>q) (bZ A k) l0 2) (hc:NuL (fun _=>1) (wZ A k 0) t k) :
 ∃ o,Af5 (Ad9 (k:Int) D (n:Int)) FU (0,l0,t)=some o∧NuL (fun q=>q) (bZ A k) o (k+2):=by
 have hn:=hD.le
 refine Ag0 (b:=Ad9 (k:Int) D (n:Int)) (fun p s=>s.1=(p:Int)∧NuL (fun q=>q) (bZ A k) s.2.1 (p+2)∧NuL (fun _=>p+1) (wZ A k p) s.2.2 k) k (fun o=>NuL (fun q=>q) (bZ A k) o (k+2)) (by rw [Af4];omega) (fun p s hp h=>?_) (fun s h=>?_) ⟨rfl,hl,hc⟩
 · obtain ⟨q,l,c⟩:=s
   obtain ⟨g,h2,r⟩:=h
   dsimp only at g h2 r
   subst g
   unfold Ad9
   dsimp only
   have hy:∀ i,i<k→(wZ A k p i).natAbs≤2^((p+1)*(b+4)):=fun i _=>Gk3 hD.bd (by omega) p i
   obtain ⟨⟨u,f,m⟩,a1,a2⟩:=Gm8 hD hk r (by omega) hy
   obtain ⟨v,b2⟩:=a2.minus
   obtain ⟨o,g1,g2⟩:=Gj8 hD hk r (by omega) hy (L:=List.replicate k dz) (by simp)
   rw [Ab0 (by simp;omega),Cb7,AA]
   dsimp only at v ⊢
   rw [a1,AA]
   dsimp only
   rw [v,AA]
   dsimp only
   rw [AA,Bb3 (by have:=h2.1;simp;omega),AA,Bb0 (by omega),AA,g1,AA,wrU (by omega)]
   exact ⟨_,rfl,rfl,h2.snoc b2,g2⟩
 · obtain ⟨q,l,c⟩:=s
   obtain ⟨g,h2,r⟩:=h
   dsimp only at g h2 r
   subst g
   unfold Ad9
   dsimp only
   rw [Ab1 (by simp)]
   exact ⟨_,rfl,h2⟩
theorem Gp5 (hD:NuM A n b D) (hk:k<n) {f by_:List Dy} (hf:NuL (fun q=>q) (beZ A k) f (k+1)) (hy:NuL (fun q=>q) (bZ A k) by_ (k+2)) {L:List Dy} (hL:L.length=k+2) (hi:i<k+2) :
 ∃ o,Af5 (Ae2 (i:Int) f by_) FU (0,L.set i dz)=some o∧∃ d,o=L.set i d∧Nu i (sI (min (i+1) (k+1)) fun j=>beZ A k j*bZ A k (i-j)) d:=by
 have hn:=hD.le
 obtain ⟨B,hB⟩:∃ B:Nat,B=3000000:=⟨_,rfl⟩
 have hb:=hD.hb
 have t:∀ j,j≤i→(beZ A k j).natAbs≤2^(j*(b+4)+4*k):=fun j hj=>Em4 hD.bd k j (by omega) (by omega)
 have b2:∀ j,j≤i→(bZ A k (i-j)).natAbs≤2^((i-j)*(b+4)):=fun j hj=>Gr9 hD.bd (by omega) (i-j)
 have v:∀ j,j≤i→(beZ A k j*bZ A k (i-j)).natAbs≤2^(i*(b+4)+4*k):=fun j hj=>Gb3 hD.bd (by omega) t hj
 refine Ag0 (b:=Ae2 (i:Int) f by_) (fun j s=>s.1=(j:Int)∧∃ d,s.2=L.set i d∧Nu i (sI j fun j=>beZ A k j*bZ A k (i-j)) d) (min (i+1) (k+1)) (fun o=>∃ d,o=L.set i d∧Nu i (sI (min (i+1) (k+1)) fun j=>beZ A k j*bZ A k (i-j)) d) (by rw [Af4];omega) (fun j s hj h=>?_) (fun s h=>?_) ⟨rfl,_,rfl,Nu.nil _⟩
 · obtain ⟨q,s⟩:=s
   obtain ⟨r,d,h2,h3⟩:=h
   dsimp only at r h2
   subst r h2
   unfold Ae2
   dsimp only
   have hat:atI (L.set i d) (i:Int)=some d:=by
    rw [Ac1 dz (by rw [AJ];omega),Ca7 (by omega),if_pos rfl]
   have hw:i64.wrap ((i:Int)-(j:Int))=((i-j:Nat):Int):=by rw [wrI (by omega) (by omega)];omega
   have aa:Nu (i-j) (bZ A k (i-j)) (by_.getD (i-j) dz):=hy.2 (i-j) (by omega)
   have ab:Nu j (beZ A k j) (f.getD j dz):=hf.2 j (by omega)
   obtain ⟨⟨u,m,g⟩,a1,a2⟩:=aa.times ab (B:=B) (by omega) (by omega) (bB (q:=0) hB (b2 j (by omega)) hb (by omega) (by omega)) (bB hB (t j (by omega)) hb (by omega) (by omega))
   rw [show i-j+j=i by omega,AS] at a2
   obtain ⟨⟨u2,m2,g2⟩,c1,c2⟩:=h3.plus a2 (B:=B) (by omega) (by omega) (bB (k:=i) (q:=4*k+4) hB (Ew4 (j:=j) (q:=i*(b+4)+4*k) (by omega) fun l hl=>v l (by omega)) hb (by omega) (by omega)) (bB hB (v j (by omega)) hb (by omega) (by omega))
   rw [Ab0 (by simp;omega),AA,AA,Ab0 (by have:=hf.1;simp;omega),hat,AA,hw,Ac1 dz (by rw [hy.1];omega),AA,Ac1 dz (by rw [hf.1];omega),AA,a1,AA]
   dsimp only at c1 ⊢
   rw [c1,AA]
   dsimp only
   rw [AA,AA,wrU (by omega),AB,List.set_set]
   exact ⟨_,rfl,rfl,_,rfl,c2⟩
 · obtain ⟨q,s⟩:=s
   obtain ⟨r,h2⟩:=h
   dsimp only at r h2
   subst r
   unfold Ae2
   dsimp only
   refine ⟨_,?_,h2⟩
   by_cases c:min (i+1) (k+1)≤i
   · rw [Ab0 (by simp;omega),AA,AA,Ab1 (by have:=hf.1;simp;omega)]
   · rw [Ab1 (by simp;omega),AA,cF]
theorem Gl3 (hs:∀ i j,A i j=A j i) (hD:NuM A n b D) (hk:k<n) {f by_:List Dy} (hf:NuL (fun q=>q) (beZ A k) f (k+1)) (hy:NuL (fun q=>q) (bZ A k) by_ (k+2)) {L:List Dy} (hL:L.length=k+2) :
 ∃ o,Af5 (Ad8 (k:Int) f by_) FU (0,L)=some o∧NuL (fun q=>q) (beZ A (k+1)) o (k+2):=by
 have hn:=hD.le
 have hw:i64.wrap ((k:Int)+2)=((k+2:Nat):Int):=by rw [wrI (by omega) (by omega)];omega
 refine Ag0 (b:=Ad8 (k:Int) f by_) (fun i s=>s.1=(i:Int)∧s.2.length=k+2∧∀ j,j<i→Nu j (beZ A (k+1) j) (s.2.getD j dz)) (k+2) (fun o=>NuL (fun q=>q) (beZ A (k+1)) o (k+2)) (by rw [Af4];omega) (fun i s hi h=>?_) (fun s h=>?_) ⟨rfl,hL,fun j h=>by omega⟩
 · obtain ⟨q,s⟩:=s
   obtain ⟨r,h2,t⟩:=h
   dsimp only at r h2 t
   subst r
   unfold Ad8
   dsimp only
   obtain ⟨o,u,d,rfl,v⟩:=Gp5 hD hk hf hy h2 hi
   rw [hw,Ab0 (by simp;omega),Cb7,AA]
   dsimp only
   rw [Ac1 dz (by omega),AA,AA,AB,u,AA,wrU (by omega)]
   refine ⟨_,rfl,rfl,by rw [AJ];exact h2,fun j hj=>?_⟩
   dsimp only
   rw [Ca7 (by omega)]
   by_cases e:i=j
   · subst e
     rw [if_pos rfl]
     have e2:beZ A (k+1) i=sI (min (i+1) (k+1)) fun j=>beZ A k j*bZ A k (i-j):=by
      show (sI (i+1) fun j=>beZ A k j*bZ A k (i-j))=_
      by_cases g:i=k+1
      · subst g
        rw [show min (k+1+1) (k+1)=k+1 by omega]
        show (sI (k+1) _)+_=_
        dsimp only
        rw [Gf5 hs (Nat.lt_succ_self k)]
        simp
      · rw [show min (i+1) (k+1)=i+1 by omega]
     rw [e2];exact v
   · rw [if_neg e];exact t j (by omega)
 · obtain ⟨q,s⟩:=s
   obtain ⟨r,h2,t⟩:=h
   dsimp only at r h2 t
   subst r
   unfold Ad8
   dsimp only
   rw [hw,Ab1 (by simp)]
   exact ⟨_,rfl,h2,t⟩
theorem Gg0 (hs:∀ i j,A i j=A j i) (hD:NuM A n b D):∃ o,Ae8 D (n:Int)=some o∧NuL (fun q=>q) (beZ A n) o (n+1):=by
 have hn:=hD.le
 have key:∃ o,Af5 (Ae0 (n:Int) D) FU (0,[(false,[1],0)])=some o∧NuL (fun q=>q) (beZ A n) o (n+1):=by
  refine Ag0 (b:=Ae0 (n:Int) D) (fun k s=>s.1=(k:Int)∧NuL (fun q=>q) (beZ A k) s.2 (k+1)) n (fun o=>NuL (fun q=>q) (beZ A n) o (n+1)) (by rw [Af4];omega) (fun k s hk h=>?_) (fun s h=>?_) ⟨rfl,rfl,fun i hi=>by
   have:i=0:=by omega
   subst this;exact Nu.one⟩
  · obtain ⟨q,f⟩:=s
    obtain ⟨g,h2⟩:=h
    dsimp only at g h2
    subst g
    unfold Ae0
    dsimp only
    have hw:i64.wrap ((k:Int)+2)=((k+2:Nat):Int):=by rw [wrI (by omega) (by omega)];omega
    obtain ⟨r,t⟩:=(hD.at_ k k hk hk).minus
    obtain ⟨c,u,v⟩:=Gn4 hD hk (L:=List.replicate k dz) (by simp)
    obtain ⟨y,y1,y2⟩:=Gy8 hD hk (l0:=[(false,[1],0),_]) ⟨rfl,fun i hi=>by
     have:i=0∨i=1:=by omega
     rcases this with rfl | rfl
     · exact Nu.one
     · exact t⟩ v
    obtain ⟨o,o1,o2⟩:=Gl3 hs hD hk h2 y2 (L:=List.replicate (k+2) dz) (by simp)
    rw [Ab0 (by simp;omega),hD.ix hk hk,AA,Ej1,AA]
    dsimp only
    rw [r,AA]
    dsimp only
    rw [AA,Bb0 (by omega),AA,u,AA,y1,AA,hw,Bb0 (by omega),AA,o1,AA,wrU (by omega)]
    exact ⟨_,rfl,rfl,o2⟩
  · obtain ⟨q,f⟩:=s
    obtain ⟨g,h2⟩:=h
    dsimp only at g h2
    subst g
    unfold Ae0
    dsimp only
    rw [Ab1 (by simp)]
    exact ⟨_,rfl,h2⟩
 obtain ⟨o,g,h2⟩:=key
 unfold Ae8
 rw [Ej1,AA]
 dsimp only
 rw [AA,g,AA]
 exact ⟨_,rfl,h2⟩
end
end Go.Eng
/-
  inertia, the document's answer: Right, Symmetric, Numbers, Wide by value. No condition.
-/
namespace Go.Eng
open Go Go.Ine
theorem De2 {r c:Int} {l:List Dy} (hl:LdL l) (hn:l.length≤4294967296):∃ b,Ay3 r c l=some b∧(b=true↔∃ n m:Nat,r=n∧c=m∧n≤48∧m≤48∧l.length=n*m∧∀ d∈l,GdD d):=by
 classical
 have hr:∀ d∈l,Aq9 d.1 d.2.1 d.2.2=some (decide (GdD d)):=fun d hd=>by
  obtain ⟨b,f,h2⟩:=Cm5 (s:=d.1) (e:=d.2.2) (hl d hd).1 (hl d hd).2
  rw [Ef9 _ _ (hl d hd).1,f]
  cases b with
  | true=>rw [decide_eq_true (h2.1 rfl)]
  | false=>rw [decide_eq_false (fun g=>by cases h2.2 g)]
 have gmem:∀ i,i<l.length→l.getD i dz∈l:=fun i hi=>by
  rw [AC,AD hi]
  exact AI _
 have stp:∀ i,i<l.length→Ah2 l (i:Int)=cond (!decide (GdD (l.getD i dz))) (some (.inr (.inr false))) (some (.inl ((i+1:Nat):Int))):=fun i hi=>by
  unfold Ah2
  dsimp only
  rw [AA,Ab0 (by simp;omega),Ac1 dz hi,AA,hr _ (gmem i hi),AA,wrU (by omega)]
 have lp:((∀ d∈l,GdD d)∧Af5 (Ah2 l) FU 0=some (.inl ()))∨((¬ ∀ d∈l,GdD d)∧Af5 (Ah2 l) FU 0=some (.inr false)):=by
  rcases Ar7 (fun i => !decide (GdD (l.getD i dz))) l.length with h | ⟨i,hi,f,h2⟩
  · refine .inl ⟨fun d hd=>?_,?_⟩
    · obtain ⟨i,hi,rfl⟩:=AW hd
      have:=h i hi
      rw [AC,AD hi] at this
      simpa using this
    · exact Ac7 (b:=Ah2 l) (fun i=>((i:Nat):Int)) l.length (by rw [Af4];omega) (fun i hi=>by rw [stp i hi,h i hi];rfl) (by
       unfold Ah2
       dsimp only
       rw [AA,Ab1 (by simp)])
  · refine .inr ⟨fun h=>?_,?_⟩
    · rw [decide_eq_true (h _ (gmem i hi))] at f;cases f
    · exact Ac7 (b:=Ah2 l) (fun i=>((i:Nat):Int)) i (by rw [Af4];omega) (fun k hk=>by rw [stp k (by omega),h2 k hk];rfl) (by rw [stp i hi,f];rfl)
 unfold Ay3
 have no:∀ {x:Prop},(x→False)→∃ b,(some false:Option Bool)=some b∧(b=true↔x):=fun h=>⟨false,rfl,fun g=>(by cases g),fun g=>(h g).elim⟩
 by_cases u:r<0
 · rw [decide_eq_true u];exact no fun ⟨n,m,o,t,_⟩=>by omega
 rw [decide_eq_false u,AN,cT]
 by_cases v:r>48
 · rw [decide_eq_true v];exact no fun ⟨n,m,o,t,_⟩=>by omega
 rw [decide_eq_false v,AN,cT]
 by_cases c3:c<0
 · rw [decide_eq_true c3];exact no fun ⟨n,m,o,t,_⟩=>by omega
 rw [decide_eq_false c3,AN,cT]
 by_cases c4:c>48
 · rw [decide_eq_true c4];exact no fun ⟨n,m,o,t,_⟩=>by omega
 rw [decide_eq_false c4,AN,cT,AA,AA]
 obtain ⟨n,rfl⟩:∃ n:Nat,r=n:=⟨r.toNat,by omega⟩
 obtain ⟨m,rfl⟩:∃ m:Nat,c=m:=⟨c.toNat,by omega⟩
 have hb:n*m≤48*48:=AE (by omega) (by omega)
 rw [Fi3 (by omega)]
 generalize hq:n*m=q at hb
 by_cases e:l.length=q
 · rw [e,Ab1 (by simp)]
   rcases lp with ⟨g,h⟩ | ⟨g,h⟩
   · rw [h,AA];exact ⟨_,rfl,fun _=>⟨n,m,rfl,rfl,by omega,by omega,hq.symm,g⟩,fun _=>rfl⟩
   · rw [h,AA];exact no fun ⟨_,_,_,_,_,_,_,g2⟩=>g g2
 · rw [Ab0 (by simp;omega)]
   exact no fun ⟨n',m',o,t,_,_,e3,_⟩=>by
    obtain rfl:n=n':=by omega
    obtain rfl:m=m':=by omega
    exact e (e3.trans hq)
theorem Dt3 {d:Dy} {Z:Nat} (hZ:Z=147456) (h:GdD d):Ar8 d.1 d.2.1 d.2.2=some (d.1,LW (lv d.2.1),d.2.2)∧Nu 1 (nDD d) (d.1,LW (lv d.2.1),d.2.2)∧(nDD d).natAbs≤2^Z:=by
 have g:=h.ld
 refine ⟨Fk7 g.1 (by omega),⟨lv d.2.1,rfl,by dsimp only;omega,by dsimp only;omega,?_⟩,?_⟩
 · unfold nv nDD nD zD
   dsimp only
   rw [show d.2.2 - -65536*((1:Nat):Int)=d.2.2+65536 by omega]
 · have:=Fh7 (low := -65536) h (by omega) (b:=Z) (by omega)
   have e:=Gj5 (low := -65536) (d:=d) (fun _=>by omega) (by omega)
   rw [show ((2^(-65536+65536:Int).toNat:Nat):Int)=1 by rfl,Int.mul_one] at e
   rw [← e];exact Nat.le_of_lt this
theorem Ek3 {r c:Int} {l:List Dy} (hl:LdL l) (hn:l.length≤4294967296):∃ b,Ah6 r c l=some b∧(b=true↔∃ n:Nat,r=n∧c=n∧SymD n l):=by
 refine Fh5 (b7:=Ak9) (b5:=Aw1) (De2 hl hn) (fun n i j q hll hg hi hj=>?_) (fun n i=>?_) (fun n t=>rfl)
 · have hnn:n*n≤48*48:=AE q q
   obtain ⟨Z,hZ⟩:∃ Z:Nat,Z=147456:=⟨_,rfl⟩
   unfold Ak9
   dsimp only
   have f:=Fs8 hll hg hi (show j<n by omega)
   have g:=Fs8 hll hg (show j<n by omega) hi
   rw [Ab0 (by simp;omega),Fa7 hi (show j<n by omega) (by omega),Fa7 (show j<n by omega) hi (by omega),Ac1 dz f.1,AA,Ac1 dz g.1,AA,(Dt3 hZ f.2).1,AA]
   dsimp only
   rw [(Dt3 hZ g.2).1,AA]
   dsimp only
   have q1:=f.2.ld
   have q2:=g.2.ld
   obtain ⟨_,v1,r1⟩:=Dt3 hZ f.2
   obtain ⟨_,v2,r2⟩:=Dt3 hZ g.2
   obtain ⟨u1,s,u,a3,h⟩:=v1
   obtain ⟨u2,v,b2,b3,o⟩:=v2
   dsimp only at s u a3 h v b2 b3 o
   rw [s,v,Fc5 (K := -65536*((1:Nat):Int)) (AF (Dn8 h r1) (by omega)) (AF (Dn8 o r2) (by omega)) (by omega) (by omega) (by omega) (by omega) u b2,h,o,AA]
 · unfold Ak9
   dsimp only
   rw [Ab1 (by simp)]
end Go.Eng
/-
  inertia, the document's answer: Numbers, Wide by value. No condition.
-/
namespace Go.Eng
open Go Go.Ine
theorem Fy2 {l:List Dy} (hg:∀ d∈l,GdD d) (i:Nat):GdD (l.getD i dz):=by
 rw [AC]
 rcases Nat.lt_or_ge i l.length with h | h
 · rw [AD h];exact hg _ (AI _)
 · rw [List.getElem?_eq_none h];exact .inl ⟨rfl,rfl,rfl⟩
def aN (n:Nat) (l:List Dy) (z:Int) (k:Nat):Int:=nDD (l.getD k dz)-if k/n=k%n then z else 0
theorem Gu6 {n:Nat} {l:List Dy} {z:Int} {Z:Nat} (hZ:Z=147456) (hg:∀ d∈l,GdD d) (hz:z.natAbs≤2^Z) (k:Nat):(aN n l z k).natAbs≤2^(Z+1):=by
 have h:=(Dt3 hZ (Fy2 hg k)).2.2
 unfold aN
 rw [Nat.pow_succ]
 generalize 2^Z=P at *
 split<;>omega
theorem Fh2 {n:Nat} {l:List Dy} {x:Dy} {z:Int} (hn:n≤48) (hl:l.length=n*n) (hg:∀ d∈l,GdD d) (hx:Nu 1 z x) {Z:Nat} (hZ:Z=147456) (hz:z.natAbs≤2^Z) (r:Int) :
 ∃ D,Ak4 r (n:Int) l x.1 x.2.1 x.2.2=some D∧NuL (fun _=>1) (aN n l z) D (n*n):=by
 have hnn:n*n≤48*48:=AE hn hn
 have key:∃ D,Af5 (Aj8 l (n:Int) x.1 x.2.1 x.2.2) FU (0,[])=some D∧NuL (fun _=>1) (aN n l z) D (n*n):=by
  refine Ag0 (b:=Aj8 l (n:Int) x.1 x.2.1 x.2.2) (fun k s=>s.1=(k:Int)∧NuL (fun _=>1) (aN n l z) s.2 k) (n*n) (fun o=>NuL (fun _=>1) (aN n l z) o (n*n)) (by rw [Af4];omega) (fun k s hk h=>?_) (fun s h=>?_) ⟨rfl,rfl,fun i hi=>by omega⟩
  · obtain ⟨q,f⟩:=s
    obtain ⟨t,h2⟩:=h
    dsimp only at t h2
    subst t
    unfold Aj8
    dsimp only
    have aa:0<n:=by
     rcases AK n with c | c
     · subst c;simp at hk
     · exact c
    obtain ⟨d1,v,d3⟩:=Dt3 hZ (Fy2 hg k)
    have hlen:=h2.1
    have hnz:nz (n:Int)=some ():=by unfold nz;rw [if_pos (by omega)]
    have hdiv:i64.wrap ((k:Int).tdiv (n:Int))=((k/n:Nat):Int):=by
     rw [← Int.ofNat_tdiv,wrN (by have:=Nat.div_le_self k n;omega)]
    have hmod:(k:Int).tmod (n:Int)=((k%n:Nat):Int):=(Int.ofNat_tmod k n).symm
    rw [AA,Ab0 (by rw [hl];simp only [decide_eq_true_eq];omega),Ac1 dz (by omega),AA,d1,AA]
    dsimp only
    rw [hnz,AA,AA,hdiv,hmod]
    by_cases c:k/n=k%n
    · rw [Ab0 (by rw [c];simp)]
      obtain ⟨m1,m2⟩:=hx.minus
      obtain ⟨⟨u,m,g⟩,p1,p2⟩:=v.plus m2 (B:=Z) (by omega) (by omega) d3 (by rw [AV];exact hz)
      dsimp only at p1
      rw [m1,AA]
      dsimp only
      rw [p1,AA]
      dsimp only
      rw [AA]
      dsimp only
      rw [AA,Bb3 (by simp;omega),AA,wrU (by omega)]
      refine ⟨_,rfl,rfl,h2.snoc ?_⟩
      have e:aN n l z k=nDD (l.getD k dz) + -z:=by unfold aN;rw [if_pos c];omega
      rw [e];exact p2
    · rw [Ab1 (by simp;omega),AA]
      dsimp only
      rw [AA,Bb3 (by simp;omega),AA,wrU (by omega)]
      refine ⟨_,rfl,rfl,h2.snoc ?_⟩
      have e:aN n l z k=nDD (l.getD k dz):=by unfold aN;rw [if_neg c];omega
      rw [e];exact v
  · obtain ⟨q,f⟩:=s
    obtain ⟨t,h2⟩:=h
    dsimp only at t h2
    subst t
    unfold Aj8
    dsimp only
    rw [AA,Ab1 (by rw [hl];simp)]
    exact ⟨_,rfl,h2⟩
 obtain ⟨D,t,h2⟩:=key
 unfold Ak4
 rw [t]
 exact ⟨D,rfl,h2⟩
theorem Gd9 {v:Nat} (f:v≠0) (hl:(LW v).length≤1073741824):Bd7 (LW v)=some ((tzN v:Nat):Int):=by
 have h:Af5 (Bg3 (LW v)) FU 0=_:=Fi9 f hl
 unfold Bd7
 rw [h];rfl
def Wd2 (a:Nat→Int) (k:Nat) (s:Int×Int):Prop:=
 ((∀ q,q<k→a q=0)∧s=(1099511627776, -1099511627776)) ∨
 ∃ lo hi:Nat,s=((lo:Int)-65536,(hi:Int)-65536)∧lo≤1000000∧hi≤1000000∧(∃ q,q<k∧a q≠0∧tzN (a q).natAbs=lo)∧(∃ q,q<k∧a q≠0∧blN (a q).natAbs=hi)∧∀ q,q<k→a q≠0→lo≤tzN (a q).natAbs∧blN (a q).natAbs≤hi
theorem Fj1 {a:Nat→Int} {D:List Dy} {N:Nat} (hN:N≤2304) (hD:NuL (fun _=>1) a D N) {Z:Nat} (hZ:Z=147456) (hb:∀ k,(a k).natAbs≤2^(Z+1)):∃ s,Af5 (Ar2 D) FU (1099511627776, -1099511627776,0)=some s∧Wd2 a N s:=by
 refine Ag0 (b:=Ar2 D) (fun k s=>s.2.2=(k:Int)∧Wd2 a k (s.1,s.2.1)) N (fun o=>Wd2 a N o) (by rw [Af4];omega) (fun k s hk h=>?_) (fun s h=>?_) ⟨rfl,.inl ⟨fun q hq=>by omega,rfl⟩⟩
 · obtain ⟨lo,hi,q⟩:=s
   obtain ⟨r,h2⟩:=h
   dsimp only at r h2
   subst r
   have hlen:=hD.1
   have aa:Nu 1 (a k) (D.getD k dz):=hD.2 k hk
   obtain ⟨v,t,a2,a3,a4⟩:=aa
   have hbl:=Dn8 a4 (hb k)
   have hl:=LWl hbl
   have habs:=Cq2 (-65536*((1:Nat):Int)) (D.getD k dz).1 v (D.getD k dz).2.2
   rw [a4] at habs
   obtain ⟨j,hj⟩:∃ j:Nat,(D.getD k dz).2.2=(j:Int)-65536:=⟨((D.getD k dz).2.2+65536).toNat,by omega⟩
   rw [show ((D.getD k dz).2.2 - -65536*((1:Nat):Int)).toNat=j by omega] at habs
   unfold Ar2
   dsimp only
   rw [AA,Ab0 (by simp;omega),Ac1 dz (by omega),AA,t,Df4 (Ba7 v) (by omega),At7,AA]
   by_cases hv:v=0
   · rw [decide_eq_true hv,cT,AA,wrU (by omega)]
     refine ⟨_,rfl,rfl,?_⟩
     have hz:a k=0:=by
      rw [hv,Nat.zero_mul] at habs
      omega
     have ext:∀ q,q<k+1→a q≠0→q<k:=fun q hq hne=>by
      by_cases e:q=k
      · subst e;exact absurd hz hne
      · omega
     rcases h2 with ⟨f,g⟩ | ⟨lo',hi',f,g,g3,⟨u,x1,x2⟩,⟨q2,y1,y2⟩,g4⟩
     · exact .inl ⟨fun q hq=>by
        by_cases e:a q=0
        · exact e
        · exact absurd (f q (ext q hq e)) e,g⟩
     · exact .inr ⟨lo',hi',f,g,g3,⟨u,by omega,x2⟩,⟨q2,by omega,y2⟩,fun q hq hne=>g4 q (ext q hq hne) hne⟩
   · have hne:a k≠0:=by
      intro c
      rw [c] at habs
      have:=Nat.mul_pos (Nat.pos_of_ne_zero hv) (AL j)
      simp at habs
      omega
     have tz:tzN (a k).natAbs=tzN v+j:=by rw [habs,Cv8 _ _ hv]
     have bl:blN (a k).natAbs=blN v+j:=by rw [habs,As4 _ _ hv]
     have tzl:tzN v≤147458:=by
      have:=El6 (Ap3.1 hbl) hv
      omega
     rw [decide_eq_false hv,cF,AA,AA,t,Gd9 hv (by omega),AA,AA,AA,t,Cs2 (Ba7 v) (by omega),At7,AA,AA,hj,wrI (by omega) (by omega),wrI (by omega) (by omega),wrU (by omega)]
     refine ⟨_,rfl,rfl,.inr ?_⟩
     dsimp only
     rcases h2 with ⟨f,g⟩ | ⟨lo',hi',f,g,g3,⟨u,x1,x2,x3⟩,⟨q2,y1,y2,y3⟩,g4⟩
     · simp only [Prod.mk.injEq] at g
       obtain ⟨rfl,rfl⟩:=g
       rw [if_pos (by omega),if_pos (by omega)]
       refine ⟨tzN v+j,blN v+j,by rw [Prod.mk.injEq];omega,by omega,by omega,⟨k,by omega,hne,tz⟩,⟨k,by omega,hne,bl⟩,fun q hq hqn=>?_⟩
       by_cases e:q=k
       · subst e;omega
       · exact absurd (f q (by omega)) hqn
     · simp only [Prod.mk.injEq] at f
       obtain ⟨rfl,rfl⟩:=f
       refine ⟨min lo' (tzN v+j),max hi' (blN v+j),?_,by omega,by omega,?_,?_,fun q hq hqn=>?_⟩
       · rw [Prod.mk.injEq]
         constructor
         · split<;>omega
         · split<;>omega
       · rcases Nat.le_total lo' (tzN v+j) with c | c
         · exact ⟨u,by omega,x2,by omega⟩
         · exact ⟨k,by omega,hne,by omega⟩
       · rcases Nat.le_total hi' (blN v+j) with c | c
         · exact ⟨k,by omega,hne,by omega⟩
         · exact ⟨q2,by omega,y2,by omega⟩
       · by_cases e:q=k
         · subst e;omega
         · have:=g4 q (by omega) hqn
           omega
 · obtain ⟨lo,hi,q⟩:=s
   obtain ⟨r,h2⟩:=h
   dsimp only at r h2
   subst r
   unfold Ar2
   dsimp only
   rw [AA,Ab1 (by rw [hD.1];simp)]
   exact ⟨_,rfl,h2⟩
end Go.Eng
/-
  inertia: the document's Signs, Below, Poly are the program's. No condition.
-/
namespace Go.Eng
open Go Go.Ine
theorem Gu1 {v:Nat} (h:v%2=1):tzN v=0:=by
 have f:=Ff2 v
 rcases AK (tzN v) with c | c
 · exact c
 · obtain ⟨k,hk⟩:∃ k,tzN v=k+1:=⟨tzN v-1,by omega⟩
   rw [hk,Nat.pow_succ] at f
   obtain ⟨m,hm⟩:=f
   rw [hm,Nat.mul_assoc,Nat.mul_left_comm] at h
   omega
section
variable {n:Nat} {l:List Dy} {x:Dy} {V:Mt} {low:Int} {ok:Bool}
theorem Fa3 {i j:Nat} (hj:j<n):aN n l (nDD x) (i*n+j)=aD n l x i j:=by
 unfold aN aD
 have f:(i*n+j)/n=i:=by rw [AR,Nat.mul_add_div (by omega),Nat.div_eq_of_lt hj];omega
 have h2:(i*n+j)%n=j:=by rw [AR,Nat.mul_add_mod,Nat.mod_eq_of_lt hj]
 rw [f,h2]
theorem Gk1 {q:Nat} (h:q<n*n):∃ i j,i<n∧j<n∧q=i*n+j:=by
 have hn:0<n:=by
  rcases AK n with c | c
  · subst c;simp at h
  · exact c
 refine ⟨q/n,q%n,(Nat.div_lt_iff_lt_mul hn).2 h,Nat.mod_lt _ hn,?_⟩
 have:=Nat.div_add_mod q n
 rw [AR] at this
 exact this.symm
theorem Gq3 {D:List Dy} {Z:Nat} (hn:n≤48) (hZ:Z=147456) (hg:∀ d∈l,GdD d) (hx:(nDD x).natAbs≤2^Z) (hD:NuL (fun _=>1) (aN n l (nDD x)) D (n*n)) (hk:Ev0 n (aD n l x) V low ok):Au9 D (n:Int)=some (!ok):=by
 have hnn:n*n≤48*48:=AE hn hn
 obtain ⟨s,h1,h2⟩:=Fj1 (by omega) hD hZ (Gu6 hZ hg hx)
 unfold Au9
 rw [h1,AA]
 dsimp only
 obtain ⟨_,hk⟩:=hk
 rcases hk with ⟨z,rfl,_,_⟩ | ⟨t,M,q1,q2,hM,v,⟨oi,oj,f,g,o3⟩,e3,⟨mi,mj,m1,m2,m3⟩,rfl⟩
 · rcases h2 with ⟨_,rfl⟩ | ⟨lo,hi,_,_,_,⟨q,o,h,_⟩,_⟩
   · rfl
   · obtain ⟨i,j,hi,hj,rfl⟩:=Gk1 o
     rw [Fa3 hj] at h
     exact absurd (z i j hi hj).1 h
 · have ix:∀ i j,i<n→j<n→i*n+j<n*n:=fun i j hi hj=>Gn6 hi hj
   have val:∀ i j,i<n→j<n→ent V i j≠0→aN n l (nDD x) (i*n+j)≠0∧tzN (aN n l (nDD x) (i*n+j)).natAbs=tzN (ent V i j).natAbs+t∧blN (aN n l (nDD x) (i*n+j)).natAbs=blN (ent V i j).natAbs+t:=fun i j hi hj hne=>by
    have hp:=AL t
    have hv:(ent V i j).natAbs≠0:=by omega
    rw [Fa3 hj,v i j hi hj,Int.natAbs_mul,Int.natAbs_natCast,Cv8 _ _ hv,As4 _ _ hv]
    exact ⟨Int.mul_ne_zero hne (by omega),rfl,rfl⟩
   have aa:∀ i j,i<n→j<n→aN n l (nDD x) (i*n+j)≠0→ent V i j≠0:=fun i j hi hj hne c=>by
    rw [Fa3 hj,v i j hi hj,c,AM] at hne
    exact hne rfl
   have hodd:ent V oi oj≠0:=by omega
   obtain ⟨v1,v2,v3⟩:=val oi oj f g hodd
   have hob:1≤blN (ent V oi oj).natAbs:=by
    rcases AK (blN (ent V oi oj).natAbs) with c | c
    · have:=Ap3.1 (Nat.le_of_eq c)
      omega
    · exact c
   have hMo:=e3 oi oj f g
   have ad:ent V mi mj≠0:=by
    intro c
    rw [c] at m3
    have:blN (0:Int).natAbs=0:=rfl
    omega
   obtain ⟨u1,u2,u3⟩:=val mi mj m1 m2 ad
   have ho:tzN (ent V oi oj).natAbs=0:=Gu1 (by omega)
   rcases h2 with ⟨h2,_⟩ | ⟨lo,hi,rfl,_,_,⟨q,o,h,x3⟩,⟨q',y1,y2,y3⟩,h3⟩
   · exact absurd (h2 _ (ix oi oj f g)) v1
   · obtain ⟨i,j,ab,ac,rfl⟩:=Gk1 o
     obtain ⟨i',j',r,u,rfl⟩:=Gk1 y1
     have a1:=(val i j ab ac (aa i j ab ac h)).2.1
     have a2:=(val i' j' r u (aa i' j' r u y2)).2.2
     have a3:=(h3 _ (ix oi oj f g) v1).1
     have a4:=(h3 _ (ix mi mj m1 m2) u1).2
     have a5:=e3 i' j' r u
     have hlo:lo=t:=by omega
     have hhi:hi=M+t:=by omega
     subst hlo hhi
     have hMn:M*n≤200000*48:=AE hM hn
     dsimp only
     rw [Ab0 (by simp;omega),show ((M+lo:Nat):Int)-65536-((lo:Int)-65536)=(M:Int) by omega,wrN (by omega),← AU,wrN (by omega)]
     congr 1
     generalize M*n=q
     rw [← decide_not]
     exact decide_eq_decide.2 (by omega)
theorem Ej8 {C:List Dy} {A:Nat→Nat→Int} {b B T Ab:Nat} (hn:n≤8) (hb:b≤150000) (hA:∀ i j,(A i j).natAbs≤2^b) (hs:∀ i j,A i j=A j i) (hC:NuL (fun q=>q) (beZ A n) C (n+1)) (hsum:B+T+Ab=n) (hsig:Sig n (fun i j=>(A i j:Rat)) B Ab) :
 Aq0 C=some ((B:Int),(T:Int),(Ab:Int)):=by
 obtain ⟨d1,d2,d3⟩:=Fm8 (A:=fun i j=>(A i j:Rat)) (fun i j=>by rw [hs i j]) hsig
 generalize hsd:(fun k=>sgR (ber (fun i j=>(A i j:Rat)) n k))=s at d1
 have hsv:∀ k,s k=sgZ' (beZ A n k):=fun k=>by rw [← hsd,← Gc2,Fs0]
 have s0:s 0=1:=by rw [← hsd];show sgR (ber _ n 0)=1;rw [Dj8];decide
 have hlen:=hC.1
 obtain ⟨B0,hB0⟩:∃ B0:Nat,B0=3000000:=⟨_,rfl⟩
 have sg:∀ k,k≤n→Af7 (C.getD k dz).1 (C.getD k dz).2.1 (C.getD k dz).2.2=some (s k):=fun k hk=>by
  have g:Nu k (beZ A n k) (C.getD k dz):=hC.2 k (by omega)
  rw [hsv]
  exact g.sign (B:=B0) (by omega) (bB hB0 (Em4 hA n k (by omega) (by omega)) hb (by omega) (by omega))
 obtain ⟨o,g,h2⟩:=Ag0 (b:=As5 (C.length:Int) C) (fun k (st:Int×Int×Int×Int)=>st.2.1=(k:Int)∧st.2.2.2=((Aw6 s k).2:Int)∧((k=0∧st.1=1)∨(st.1=(Aw6 s k).1∧(Aw6 s k).1≠0∧∃ f:Nat,f<k∧st.2.2.1=((n-f:Nat):Int)∧s f≠0∧∀ j,f<j→j<k→s j=0)))
  (n+1) (fun (o:Int×Int)=>o.2=((Aw6 s (n+1)).2:Int)∧∃ f:Nat,f<n+1∧o.1=((n-f:Nat):Int)∧s f≠0∧∀ j,f<j→j<n+1→s j=0) (by rw [Af4];omega) (s0:=(1,0,0,0)) (fun k st hk h=>by
   obtain ⟨a,q,c,d⟩:=st
   obtain ⟨g,h2,r⟩:=h
   dsimp only at g h2 r
   subst g h2
   have hcnt:=Er6 s k
   unfold As5
   dsimp only
   have hw:i64.wrap ((C.length:Int)-1)=(n:Int):=by rw [hlen,wrI (by omega) (by omega)];omega
   rw [hw,Ab0 (by simp;omega),Ac1 dz (by omega),AA,sg k (by omega),AA]
   by_cases z:s k=0
   · have ab:k≠0:=by rintro rfl;omega
     rcases r with ⟨e,_⟩ | ⟨rfl,u,f,f1,rfl,v,f4⟩
     · exact absurd e ab
     · rw [Ab0 (by rw [z];rfl),AA,wrU (by omega)]
       have es:Aw6 s (k+1)=Aw6 s k:=by
        conv=>lhs;unfold Aw6
        rw [if_pos z]
       refine ⟨_,rfl,rfl,by rw [es],.inr ⟨by rw [es],by rw [es];exact u,f,by omega,rfl,v,fun j aa ac=>?_⟩⟩
       by_cases e:j=k
       · rw [e];exact z
       · exact f4 j aa (by omega)
   · rw [Ab1 (by simpa using z),show i64.wrap ((n:Int)-(k:Int))=((n-k:Nat):Int) by rw [wrI (by omega) (by omega)];omega]
     have es:Aw6 s (k+1)=(s k,if (Aw6 s k).1≠0∧s k≠(Aw6 s k).1 then (Aw6 s k).2+1 else (Aw6 s k).2):=by
      conv=>lhs;unfold Aw6
      rw [if_neg z]
     have ecnt:(cond (s k != a) (some (i64.wrap (((Aw6 s k).2:Int)+1))) (some ((Aw6 s k).2:Int)))=some ((Aw6 s (k+1)).2:Int):=by
      rw [es]
      dsimp only
      rcases r with ⟨rfl,rfl⟩ | ⟨rfl,u,_⟩
      · rw [s0];rfl
      · by_cases t:s k=(Aw6 s k).1
        · rw [Ab1 (by simpa using t),if_neg (fun q=>q.2 t)]
        · rw [Ab0 (by simpa using t),if_pos ⟨u,t⟩,wrU (by omega)]
     rw [ecnt,AA,AA,wrU (by omega)]
     refine ⟨_,rfl,rfl,rfl,.inr ⟨by rw [es],by rw [es];exact z,k,by omega,rfl,z,fun j aa ac=>by omega⟩⟩)
  (fun st h=>by
   obtain ⟨a,q,c,d⟩:=st
   obtain ⟨g,h2,r⟩:=h
   dsimp only at g h2 r
   subst g h2
   unfold As5
   dsimp only
   have hw:i64.wrap ((C.length:Int)-1)=(n:Int):=by rw [hlen,wrI (by omega) (by omega)];omega
   rw [hw,Ab1 (by simp;omega)]
   rcases r with ⟨e,_⟩ | ⟨_,_,r⟩
   · omega
   · exact ⟨_,rfl,rfl,r⟩) ⟨rfl,rfl,.inl ⟨rfl,rfl⟩⟩
 obtain ⟨o1,o2⟩:=o
 obtain ⟨rfl,f,f1,f2,v,f4⟩:=h2
 dsimp only at f2
 subst f2
 have hf:f=Ab+B:=by
  have a1 : ¬ f<Ab+B:=fun c=>d2 (by
   have:=f4 (Ab+B) c (by omega)
   rw [← hsd] at this
   exact Cn2.1 this)
  have a2 : ¬ Ab+B<f:=fun c=>v (by
   rw [← hsd]
   exact Cn2.2 (d3 f c))
  omega
 unfold Aq0
 rw [AA,g,AA]
 dsimp only
 have hfin:i64.wrap (i64.wrap (i64.wrap (((n+1:Nat):Int)-1)-(T:Int))-(Ab:Int))=(B:Int):=by
  rw [wrI (n:=((n+1:Nat):Int)-1) (by omega) (by omega),wrI (n:=((n+1:Nat):Int)-1-(T:Int)) (by omega) (by omega),wrI (by omega) (by omega)]
  omega
 rw [d1,hf,show n-(Ab+B)=T by omega,hlen,hfin]
def aE (n:Nat) (l:List Dy) (x:Dy) (i j:Nat):Int:=if i<n∧j<n then aD n l x i j else 0
theorem Gn5 {i j:Nat} (hi:i<n) (hj:j<n):aE n l x i j=aD n l x i j:=if_pos ⟨hi,hj⟩
theorem Fb0 (hS:SymD n l) (i j:Nat):aE n l x i j=aE n l x j i:=by
 unfold aE
 by_cases c:i<n∧j<n
 · rw [if_pos c,if_pos ⟨c.2,c.1⟩];exact hS.aD x i j c.1 c.2
 · rw [if_neg c,if_neg (fun d=>c ⟨d.2,d.1⟩)]
theorem Fv2 {Z:Nat} (hZ:Z=147456) (hS:SymD n l) (hx:(nDD x).natAbs≤2^Z) (i j:Nat):(aE n l x i j).natAbs≤2^(Z+1):=by
 unfold aE
 by_cases c:i<n∧j<n
 · rw [if_pos c,← Fa3 c.2]
   exact Gu6 hZ hS.gd hx _
 · rw [if_neg c];exact Nat.zero_le _
theorem Gj9 {Z:Nat} (hZ:Z=147456) (hS:SymD n l) (hn:n≤8) (hx:(nDD x).natAbs≤2^Z) {D:List Dy} (hD:NuL (fun _=>1) (aN n l (nDD x)) D (n*n)):NuM (aE n l x) n (Z+1) D where
 le:=hn
 len:=hD.1
 at_:=fun i j hi hj=>by
  rw [Gn5 hi hj,← Fa3 hj]
  exact hD.2 _ (Gn6 hi hj)
 bd:=Fv2 hZ hS hx
 hb:=by omega
end
end Go.Eng
/-
  inertia: the document's Signs, Below, Poly tell what the program's tell. No condition.
-/
namespace Go.Eng
open Go Go.Ine
theorem Gf8 {K g:Int} {u:Bool} {p:Nat} (h:K≤g):Bm6 (zD u (LW p)) g=Bm6 (nv K u p g) K:=by
 rw [← De7 (zD u (LW p)) g (g-K).toNat]
 unfold nv zD
 rw [At7]
 congr 1;omega
theorem Nu.told {k B:Nat} {z:Int} {d:Dy} (h:Nu k z d) (hB:B≤33000000) (hz:z.natAbs≤2^B):Au3 d.1 d.2.1 d.2.2=some (Bm6 z (-65536*(k:Int))):=by
 obtain ⟨v,g,o,q,f⟩:=h
 have hl:=LWl (Dn8 f hz)
 rw [g,Fd5 (Ba7 v) (by omega),Gf8 o,f]
section
variable {n:Nat} {l:List Dy} {x:Dy} {V:Mt} {low:Int} {ok:Bool}
theorem Ha3 (V:Mt) (n k:Nat):cfI V n k=beZ (ent V) n k:=by
 have h:=Gv4 V n k
 have h2:=Fs0 (A:=ent V) n k
 exact Rat.intCast_inj.1 (h.trans h2.symm)
theorem Gi1 (hk:Ev0 n (aD n l x) V low ok) (k:Nat):Bm6 (beZ (aE n l x) n k) (-65536*(k:Int))=Bm6 (cfI V n k) ((k:Int)*low):=by
 obtain ⟨hq,hk⟩:=hk
 rw [Ha3]
 rcases hk with ⟨z,_⟩ | ⟨t,M,q,_,_,h,_⟩
 · have e:aE n l x=fun i j=>0*ent V i j:=by
    funext i j
    unfold aE
    split
    · next c=>rw [(z i j c.1 c.2).1,AM]
    · rw [AM]
   have f:ent V=fun i j=>0*ent V i j:=by
    funext i j
    rw [AM]
    by_cases c:i<n∧j<n
    · exact (z i j c.1 c.2).2
    · exact Dj3 hq c
   cases k with
   | zero=>
     rw [e,← f]
     congr 1
     simp
   | succ k=>
     have o:beZ (ent V) n (k+1)=0:=by
      rw [f,Fm3,Int.pow_succ,Int.mul_zero,AM]
     have g:∀ e,Bm6 0 e=nilD:=fun e=>by unfold Bm6;rw [if_pos rfl]
     rw [e,← f,o,g,g]
 · have e:aE n l x=fun i j=>((2^t:Nat):Int)*ent V i j:=by
    funext i j
    unfold aE
    split
    · next c=>rw [h i j c.1 c.2,AS]
    · next c=>rw [Dj3 hq c,Int.mul_zero]
   have ep:(((2^t:Nat):Int))^k=((2^(t*k):Nat):Int):=by rw [Nat.pow_mul];exact (Int.natCast_pow _ _).symm
   have ee : -65536*(k:Int)=(k:Int)*low-((t*k:Nat):Int):=by
    have:low=(t:Int)-65536:=by omega
    rw [this,Int.mul_sub,AU,AS (t:Int)]
    omega
   rw [e,Fm3,ep,AS,ee,De7]
theorem SymD.tR (hS:SymD n l):Ah6 (n:Int) (n:Int) l=some true:=by
 obtain ⟨b,f,h2⟩:=Ek3 (r:=n) (c:=n) hS.ldL (by have:=hS.small;omega)
 rw [f,h2.2 ⟨n,rfl,rfl,hS⟩]
theorem Dj4 {x':Dy} (hS:SymD n l) (hn:n≤8) (hx:GdD x) (hx':Nu 1 (nDD x) x') (hk:Ev0 n (aD n l x) V low ok) :
 ∃ D Z,Ak4 (n:Int) (n:Int) l x'.1 x'.2.1 x'.2.2=some D∧Au9 D (n:Int)=some (!ok)∧Z=147456∧(nDD x).natAbs≤2^Z∧∃ C,Ae8 D (n:Int)=some C∧NuL (fun q=>q) (beZ (aE n l x) n) C (n+1):=by
 obtain ⟨Z,hZ⟩:∃ Z:Nat,Z=147456:=⟨_,rfl⟩
 have hxz:=(Dt3 hZ hx).2.2
 obtain ⟨D,g,f⟩:=Fh2 (by omega) hS.len hS.gd hx' hZ hxz (n:Int)
 obtain ⟨C,h,o⟩:=Gg0 (Fb0 hS) (Gj9 hZ hS hn hxz f)
 exact ⟨D,Z,g,Gq3 (by omega) hZ hS.gd hxz f hk,hZ,hxz,C,h,o⟩
theorem Fz3 {B Ab:Nat} (h:Sig n (fun i j=>(aD n l x i j:Rat)) B Ab):Sig n (fun i j=>(aE n l x i j:Rat)) B Ab:=h.ext fun i j hi hj=>by rw [Gn5 hi hj]
theorem Ew1 (hS:SymD n l) (hn:n≤8):∃ a b c d,Ag1 (n:Int) (n:Int) l=some (a,b,c,d)∧At0 (n:Int) (n:Int) l=some (a,b,c,d):=by
 obtain ⟨V,low,ok,_,hk,h⟩:=Fa6 hS hn
 obtain ⟨D,Z,f,h2,hZ,hxz,C,g,q⟩:=Dj4 (x:=dz) (x':=dz) hS hn (.inl ⟨rfl,rfl,rfl⟩) (by rw [Fk5];exact Nu.nil 1) hk
 have hT:At0 (n:Int) (n:Int) l=cond (!ok) (some (0,0,0,3)) ((Aq0 C).bind fun o=>some (o.1,o.2.1,o.2.2,0)):=by
  unfold At0
  rw [hS.tR,AA,nT,Cb7,AA]
  dsimp only at f ⊢
  rw [f,AA,h2,AA,g,AA]
 rw [hT]
 rcases h with ⟨rfl,h⟩ | ⟨rfl,B,T,Ab,_,hsum,hsig,h⟩
 · exact ⟨_,_,_,_,h,rfl⟩
 · refine ⟨_,_,_,_,h,?_⟩
   rw [nT,Ej8 hn (b:=Z+1) (by omega) (Fv2 hZ hS hxz) (Fb0 hS) q hsum (Fz3 hsig)]
   rfl
theorem Et6 (hS:SymD n l) (hx:GdD x) (hn:n≤8):∃ a b,Af0 (n:Int) (n:Int) l x.1 x.2.1 x.2.2=some (a,b)∧Aq2 (n:Int) (n:Int) l x.1 x.2.1 x.2.2=some (a,b):=by
 obtain ⟨V,low,ok,_,hk,h⟩:=Ge1 hS hx hn
 have g:=Dt3 (Z:=147456) rfl hx
 obtain ⟨D,Z,f,h2,hZ,hxz,C,q,r⟩:=Dj4 (x:=x) (x':=(x.1,LW (lv x.2.1),x.2.2)) hS hn hx g.2.1 hk
 have hR:Aq9 x.1 x.2.1 x.2.2=some true:=by rw [Ef9 _ _ hx.ld.1,Dm7 hx]
 have hT:Aq2 (n:Int) (n:Int) l x.1 x.2.1 x.2.2=cond (!ok) (some (0,3)) ((Aq0 C).bind fun o=>some (o.1,0)):=by
  unfold Aq2
  rw [hS.tR,AA,nT,hR,AA,nT,g.1,AA]
  dsimp only at f ⊢
  rw [f,AA,h2,AA,q,AA]
 rw [hT]
 rcases h with ⟨rfl,h⟩ | ⟨rfl,B,T,Ab,_,hsum,hsig,h⟩
 · exact ⟨_,_,h,rfl⟩
 · refine ⟨_,_,h,?_⟩
   rw [nT,Ej8 hn (b:=Z+1) (by omega) (Fv2 hZ hS hxz) (Fb0 hS) r hsum (Fz3 hsig)]
   rfl
theorem Ey9 (hS:SymD n l) (hn:n≤8):∃ u e,Af8 (n:Int) (n:Int) l=some (u,e)∧Ax8 (n:Int) (n:Int) l=some (u,e)∧u.length≤9∧∀ d∈u,d.2.1.length≤1048576:=by
 obtain ⟨V,low,ok,sc,hk,_⟩:=Fa6 hS hn
 obtain ⟨D,Z,h1,h2,hZ,hxz,C,c1,c2⟩:=Dj4 (x:=dz) (x':=dz) hS hn (.inl ⟨rfl,rfl,rfl⟩) (by rw [Fk5];exact Nu.nil 1) hk
 have hpo:=Gr7 hS hn sc hk
 have hlen:=c2.1
 have hT:Ax8 (n:Int) (n:Int) l=cond (!ok) (some ([],3)) ((Af5 (Ak3 C) FU ((n:Int),[]):Option (List Dy⊕(List Dy×Int))).bind fun o=>match o with
  | .inl t9=>some (t9,0)
  | .inr v=>some v):=by
  unfold Ax8
  rw [hS.tR,AA,nT,Cb7,AA]
  dsimp only at h1 ⊢
  rw [h1,AA,h2,AA,c1,AA,AA,hlen,show i64.wrap (((n+1:Nat):Int)-1)=(n:Int) by rw [wrI (by omega) (by omega)];omega]
  rfl
 rw [hT]
 rcases hpo with ⟨rfl,h⟩ | ⟨rfl,h⟩
 · exact ⟨_,_,h,rfl,by simp,fun d hd=>by cases hd⟩
 · rw [nT]
   obtain ⟨B,hB⟩:∃ B:Nat,B=3000000:=⟨_,rfl⟩
   have told:∀ k,k≤n→Au3 (C.getD k dz).1 (C.getD k dz).2.1 (C.getD k dz).2.2=some (Bm6 (cfI V n k) ((k:Int)*low)):=fun k aa=>by
    have g:Nu k (beZ (aE n l dz) n k) (C.getD k dz):=c2.2 k (by omega)
    rw [← Gi1 hk]
    exact g.told (B:=B) (by omega) (bB hB (Em4 (Fv2 hZ hS hxz) n k (by omega) (by omega)) (by omega) (by omega) (by omega))
   rcases h with ⟨h,i,hi,hc⟩ | ⟨u,h,hul,hu⟩
   · refine ⟨_,_,h,?_,by simp,fun d hd=>by cases hd⟩
     obtain ⟨o,o1,rfl⟩:=Fi8 (b:=Ak3 C) (fun j s=>s.1=(n:Int)-(j:Int)∧s.2.length≤j∧∀ k,k≤n→n-k<j→(Bm6 (cfI V n k) ((k:Int)*low)).2.2.2=0) (fun o=>o = .inr ([],3)) (n+1) (by rw [Af4];omega) (s0:=((n:Int),[])) (fun j s hj hs=>by
      obtain ⟨q,f⟩:=s
      obtain ⟨t,r,s3⟩:=hs
      dsimp only at t r
      have hjn:j≤n:=by
       rcases Nat.lt_or_ge n j with c | c
       · have:=s3 i hi (by omega)
         rw [hc] at this;cases this
       · exact c
      obtain ⟨k,aa⟩:∃ k:Nat,q=(k:Int)∧k=n-j:=⟨n-j,by omega,rfl⟩
      obtain ⟨rfl,hkj⟩:=aa
      unfold Ak3
      dsimp only
      rw [Ab0 (by simp),Ac1 dz (by omega),AA,told k (by omega),AA]
      rcases Dt7 (cfI V n k) ((k:Int)*low) with c | c
      · rw [c,Ab0 (by decide)]
        exact .inl ⟨_,rfl,rfl⟩
      · rw [c,Ab1 (by decide),AA,Bb3 (by simp;omega),AA,wrI (by omega) (by omega)]
        refine .inr ⟨by omega,_,rfl,by dsimp only;omega,by simp;omega,fun k' h1 h2=>?_⟩
        by_cases e:k'=k
        · rw [e];exact c
        · exact s3 k' h1 (by omega)) ⟨by simp,by simp,fun k h1 h2=>by omega⟩
     rw [o1];rfl
   · have hd:∀ d∈u,d.2.1.length≤1048576:=fun d hd=>by
      obtain ⟨i,hi,rfl⟩:=AW hd
      obtain ⟨d,g1,g2⟩:=hu (n-i) (by omega)
      rw [show n-(n-i)=i by omega,AD hi] at g1
      cases g1
      have:=(Gi6 g2).1.ld.2.1
      omega
     refine ⟨_,_,h,?_,by omega,hd⟩
     obtain ⟨o,o1,rfl⟩:=Ag0 (b:=Ak3 C) (fun j s=>s.1=(n:Int)-(j:Int)∧s.2=u.take j) (n+1) (fun o=>o = .inl u) (by rw [Af4];omega) (s0:=((n:Int),[])) (fun j s hj hs=>by
      obtain ⟨q,f⟩:=s
      obtain ⟨t,r⟩:=hs
      dsimp only at t r
      subst r
      obtain ⟨k,aa⟩:∃ k:Nat,q=(k:Int)∧k=n-j:=⟨n-j,by omega,rfl⟩
      obtain ⟨rfl,hkj⟩:=aa
      obtain ⟨d,g1,g2⟩:=hu k (by omega)
      rw [show n-k=j by omega] at g1
      unfold Ak3
      dsimp only
      rw [Ab0 (by simp),Ac1 dz (by omega),AA,told k (by omega),g2,AA]
      dsimp only
      rw [Ab1 (by decide),AA,Bb3 (by simp;omega),AA,wrI (by omega) (by omega)]
      refine ⟨_,rfl,by dsimp only;omega,?_⟩
      dsimp only
      rw [AP,g1];rfl) (fun s hs=>by
      obtain ⟨q,f⟩:=s
      obtain ⟨t,r⟩:=hs
      dsimp only at t r
      subst t r
      unfold Ak3
      dsimp only
      rw [Ab1 (by simp;omega),AT (by omega)]
      exact ⟨_,rfl,rfl⟩) ⟨by simp,rfl⟩
     rw [o1];rfl
end
end Go.Eng
/-
  The law InertiaTells: its values. No condition.
-/
namespace Go.Eng
open Go Go.Ine
theorem Ej0 {l:List Dy} (hl:∀ d∈l,d.2.1.length≤4294967296) (hn:l.length≤4294967296):Ak7 l l=some true:=by
 unfold Ak7
 rw [AA,AA,Ab1 (by simp)]
 have:=Ac7 (b:=Aj4 l l) (fun i=>((i:Nat):Int)) (o:=(.inl ():Unit⊕Bool)) l.length (by rw [Af4];omega) (fun i hi=>by
  unfold Aj4
  dsimp only
  rw [AA,Ab0 (by simp;omega),Eq7 hi,AA,AA,Cr8 (hl _ (AI hi)),AA,Ab1 (by simp),wrU (by omega)]) (by
  unfold Aj4
  dsimp only
  rw [AA,Ab1 (by simp)])
 have this:Af5 (Aj4 l l) FU 0=some (.inl ()):=this
 rw [this];rfl
theorem El3 {b:Bool} {l:List Int} {e:Int} (hl:l.length≤4294967000):Au4 b l e b l e=some true:=by
 unfold Au4 Bb6
 rw [Cr8 (by omega),decide_eq_true hl]
 simp
structure Telling (r c:Int) (l:List Dy) (x:Dy) where
 rt:∃ b,Al8 r c l=some b∧Ay3 r c l=some b
 sy:∃ b,Ac4 r c l=some b∧Ah6 r c l=some b
 si:∃ u0 u1 u2 u3,Ag1 r c l=some (u0,u1,u2,u3)∧At0 r c l=some (u0,u1,u2,u3)
 be:∃ u0 u1,Af0 r c l x.1 x.2.1 x.2.2=some (u0,u1)∧Aq2 r c l x.1 x.2.1 x.2.2=some (u0,u1)
 po:∃ u e,Af8 r c l=some (u,e)∧Ax8 r c l=some (u,e)∧Ak7 u u=some true
theorem Fy3 {o p:Option Bool} {q:Prop} (h:∃ b,o=some b∧(b=true↔q)) (k:∃ b,p=some b∧(b=true↔q)):∃ b,o=some b∧p=some b:=by
 obtain ⟨b,f,h2⟩:=h
 obtain ⟨d,g,r⟩:=k
 have:b=d:=by
  rw [Bool.eq_iff_iff,h2,r]
 subst this
 exact ⟨b,f,g⟩
theorem Gj6 {r c:Int} {l:List Dy} {x:Dy} (hl:LdL l) (hn:l.length≤1048576) (hx:Ld x.2.1) (aa:x.2.1.length≤4294967296) (hg:Bd6 r c l=some false):Telling r c l x:=by
 have rt:=Fy3 (Er5 (r:=r) (c:=c) hl (by omega)) (De2 (r:=r) (c:=c) hl (by omega))
 obtain ⟨b,t,o⟩:=Gb4 (r:=r) (c:=c) hl (by omega)
 have sy:=Fy3 ⟨b,t,o⟩ (Ek3 (r:=r) (c:=c) hl (by omega))
 obtain ⟨b',y1,y2⟩:=sy
 obtain rfl:b=b':=Option.some.inj (t.symm.trans y1)
 refine ⟨rt,⟨b,y1,y2⟩,?_,?_,?_⟩<;>cases b
 · refine ⟨0,0,0,4,?_,?_⟩
   · unfold Ag1 Dj6;rw [y1];rfl
   · unfold At0;rw [y2];rfl
 · obtain ⟨n,rfl,rfl,hS⟩:=o.1 rfl
   obtain ⟨g,f,h⟩:=Dj7 (r:=(n:Int)) (c:=(n:Int)) (l:=l) (by omega)
   rw [hg] at f
   cases f
   exact Ew1 hS (by have:=(h rfl).1;omega)
 · refine ⟨0,4,?_,?_⟩
   · unfold Af0 Cv6;rw [y1];rfl
   · unfold Aq2;rw [y2];rfl
 · obtain ⟨n,rfl,rfl,hS⟩:=o.1 rfl
   obtain ⟨g,f,h⟩:=Dj7 (r:=(n:Int)) (c:=(n:Int)) (l:=l) (by omega)
   rw [hg] at f
   cases f
   obtain ⟨q,v,q2⟩:=Cm5 (s:=x.1) (e:=x.2.2) hx aa
   cases q with
   | false=>
     refine ⟨0,2,?_,?_⟩
     · unfold Af0 Cv6;rw [y1,AA,nT,v];rfl
     · unfold Aq2;rw [y2,AA,nT,Ef9 _ _ hx,v];rfl
   | true=>exact Et6 hS (q2.1 rfl) (by have:=(h rfl).1;omega)
 · refine ⟨[],4,?_,?_,by rfl⟩
   · unfold Af8 Ep7;rw [y1];rfl
   · unfold Ax8;rw [y2];rfl
 · obtain ⟨n,rfl,rfl,hS⟩:=o.1 rfl
   obtain ⟨g,f,h⟩:=Dj7 (r:=(n:Int)) (c:=(n:Int)) (l:=l) (by omega)
   rw [hg] at f
   cases f
   obtain ⟨u,e,h1,h2,h3,h4⟩:=Ey9 hS (by have:=(h rfl).1;omega)
   exact ⟨u,e,h1,h2,Ej0 (fun d hd=>by have:=h4 d hd;omega) (by omega)⟩
end Go.Eng
/-
  Lists of dyads that are lent, looked at again: contracts. No condition.
-/
namespace Go.Eng
open Go
def Ax1:List Dy:=(List.range 12).map fun (i:Nat)=>(false,[],8000024+(i:Int))
def noH (k:Nat):List Hd:=List.replicate k (none,0,0)
inductive AllU (L:List It):List Dy→List Hd→Prop
 | nil:AllU L [] []
 | cons {x:Dy} {b:Option Addr} {k:Nat} {X:List Dy} {H:List Hd}:Ent L (rdA ((x.2.1++Au6).map (AH .u64)) b (k+12) (k+12))→AllU L X H→AllU L (x::X) ((b,k,k+12)::H)
section
variable {L L':List It} {X Y:List Dy} {H G:List Hd}
theorem AllU.mono (h:AllU L X H) (hL:∀ e,e∈L→e∈L'):AllU L' X H:=by
 induction h with
 | nil=>exact .nil
 | cons h _ ih=>exact .cons (h.mono hL) ih
theorem AllU.both {x y:It} (h:AllU (x::y::L) X H):AllU (Go.Eng.both x y::L) X H:=by
 induction h with
 | nil=>exact .nil
 | cons h _ ih=>exact .cons h.both ih
theorem AllU.append (h:AllU L X H) (k:AllU L Y G):AllU L (X++Y) (H++G):=by
 induction h with
 | nil=>exact k
 | cons h _ ih=>exact .cons h ih
theorem AllU.all (h:AllU L X H):AllD L X H:=by
 induction h with
 | nil=>exact .nil
 | cons h _ ih=>exact .cons (Ent.lent h rfl rfl) ih
theorem AllU.get (h:AllU L X H):∀ {i:Nat} {t:Dy},X[i]?=some t→∃ b k,H[i]?=some (b,k,k+12)∧Ent L (rdA ((t.2.1++Au6).map (AH .u64)) b (k+12) (k+12)):=by
 induction h with
 | nil=>intro i t h;simp at h
 | cons h _ ih=>
   intro i t hx
   cases i with
   | zero=>simp at hx;subst hx;exact ⟨_,_,rfl,h⟩
   | succ i=>exact ih (by simpa using hx)
theorem rdA.pre {a:Option Addr} {n c m:Nat} {vs us:List Value} {w:World} (h:rdA (vs++us) a n c w) (hm:m=vs.length):rdA vs a m c w:=by
 have hl:=h.len
 rw [List.length_append] at hl
 have hc:=h.cap
 refine ⟨hm,by omega,fun i hi=>?_⟩
 obtain ⟨x,hx,e⟩:=h.at_ i (by omega)
 exact ⟨x,hx,by rw [e,AG (by omega)]⟩
end
structure LentD (L:List It) (l:List Dy) (hh:List Hd) (a:Option Addr) (n c:Nat):Prop where
 len:n=l.length
 main:Ent L (rdA (dyC (l++Ax1) (hh++noH 12)) a ((n+12)*3) (c*3))
 each:AllU L l hh
section
variable {L L':List It} {l:List Dy} {hh:List Hd} {a:Option Addr} {n c:Nat}
theorem LentD.mono (h:LentD L l hh a n c) (hL:∀ e,e∈L→e∈L'):LentD L' l hh a n c:=⟨h.len,h.main.mono hL,h.each.mono hL⟩
theorem LentD.both {x y:It} (h:LentD (x::y::L) l hh a n c):LentD (Go.Eng.both x y::L) l hh a n c:=⟨h.len,h.main.both,h.each.both⟩
theorem LentD.all (h:LentD L l hh a n c):AllD L l hh:=h.each.all
theorem LentD.ent (h:LentD L l hh a n c):Ent L (rdA (dyC l hh) a (n*3) (c*3)):=fun w k=>by
 have f:=h.main w k
 have e:=h.all.len
 rw [Cx0 e] at f
 exact f.pre (by rw [Al7 e,h.len])
end
section
variable {N:Nums} {P:Program} (H:AllOk N P)
include H
theorem Fj8 {w0 w:World} {L:List It} {k i:Nat} {K:Value→World→Prop} (hS:Ho w0 w L) (hk:k<1000) (hi:i<1099511627776) (hK:∀ f,Ho w0 f L→K (.agg #[.bool false,.slice none 0 0,.int .i64 (1000003*((k:Int)+7)+i)]) f):Aa1 P N.Hk3 #[.int .i64 k,.int .i64 i] w K:=by
 refine H.k_markDyad k i w _ ?_
 unfold Cj7
 refine Ab2 hS ?_;clear hS;intro r w hS
 refine Ec6 H hS hk hi fun w hS=>?_
 refine ⟨_,rfl,?_⟩
 refine Aa8 hS rfl rfl ?_;clear hS;intro w hS
 refine Aa8 hS rfl rfl ?_;clear hS;intro w hS
 refine Aa8 hS rfl rfl ?_;clear hS;intro w hS
 exact ⟨_,hS.cel mp0 rfl,_,_,_,hS.cel mp0 rfl,_,hS.cel mp0 rfl,hK _ hS.drop⟩
theorem Ft1 {w0 w:World} {L:List It} {a:Option Addr} {n c:Nat} {l:List Dy} {hh:List Hd} {K:Value→World→Prop} (hS:Ho w0 w L) (hq:Ent L (rdA (dyC l hh) a (n*3) (c*3))) (hg:AllD L l hh) (hn:l.length≤4294967000) (hl:∀ d∈l,d.2.1.length≤4294967000)
 (hK:∀ (a':Option Addr) (c':Nat) (hh':List Hd) (it:It) (t:World),LentD [it] l hh' a' n c'→Ho w0 t (it::L)→K (.slice a' n c') t):Aa1 P N.Hj1 #[.slice a n c] w K:=by
 refine H.k_LentDyads a n c w _ ?_
 unfold Bz6
 have hlen:n=l.length:=by
  have:=(hq.nw hS).len
  rw [Al7 hg.len] at this
  omega
 have hw:i64.wrap ((n:Int)+12)=((n+12:Nat):Int):=by rw [← wrN (n:=n+12) (by omega)];rfl
 rw [hw]
 refine Fq1 hS ⟨by omega,by omega,by omega⟩ rfl fun r w hS1=>?_
 replace hS1:=hS1.voidItem
 clear hS
 refine Aa9 (fun s w'=>∃ (a:Option Addr) (c:Nat) (hh':List Hd) (it:It),s.1=(a,n,c)∧AllU [it] l hh'∧Ho w0 w' (sl a (n*3) (c*3) (dyC l hh') N.Hs7::it::L)) (fun J hJ=>?_) ?_
 · refine Cz1 (fun s w'=>∃ (k:Nat) (a:Option Addr) (c:Nat) (hh':List Hd) (it:It),k≤n∧s.2.1=(k:Int)∧s.1=(a,k,c)∧AllU [it] (l.take k) hh'∧Ho w0 w' (sl a (k*3) (c*3) (dyC (l.take k) hh') N.Hs7::it::L)) (fun s=>n-s.2.1.toNat) ⟨0,_,_,[],vd,by omega,rfl,rfl,.nil,ro1 hS1⟩ ?_
   rintro ⟨s,i,u⟩ w X ⟨k,b,cb,hh',it,hk,hi,hs,hu,hS⟩ hX
   dsimp only at hi hs
   subst hi;subst hs
   refine Ab7 (fun hb=>?_) (fun hb=>?_)
   · have hlt:k<n:=by simpa using hb
     have hx:l[k]?=some (l[k]'(by omega)):=AD (by omega)
     generalize hxd:l[k]'(by omega)=x at hx
     obtain ⟨g,f,g2⟩:=hg.get hx
     have hxl:x.2.1.length≤4294967000:=hl x (hxd ▸ AI _)
     refine Ah3 (i:=(k:Int)) hg.len ((hq.mono tl2).nw hS) (by omega) (by simp;omega) fun y hy=>?_
     refine ⟨_,Bq3 (i:=(k:Int)) ((hq.mono tl2).nw hS) hy (by simpa using hx) (by simpa using f),_,_,_,Bm9 (i:=(k:Int)) ((hq.mono tl2).nw hS) hy (by simpa using hx) (by simpa using f),_,Bj1 (i:=(k:Int)) ((hq.mono tl2).nw hS) hy (by simpa using hx) (by simpa using f),?_⟩
     refine Aw5 H hS (g2.mono tl2) (u0:=x.1) (u1:=x.2.1) (u2:=x.2.2) (by unfold Ba2 Av6;rw [decide_eq_true hxl];rfl) ?_
     clear hS;intro h w _ hS
     refine ⟨_,_,_,_,_,rfl,?_⟩
     refine Ab2 hS ?_;clear hS;intro r2 w hS
     refine Aa8 hS rfl rfl ?_;clear hS;intro w hS
     refine Aa8 hS rfl rfl ?_;clear hS;intro w hS
     refine Aa8 hS rfl rfl ?_;clear hS;intro w hS
     refine ⟨_,hS.cel mp0 rfl,_,_,_,hS.cel mp0 rfl,_,hS.cel mp0 rfl,?_⟩
     replace hS:=hS.drop
     generalize hgl:g.2.1=q at *
     refine Bm3 (X:=[x]) (H:=[(some ⟨h,0,none⟩,q,q+12)]) (m:=1) hS rfl rfl rfl ?_;clear hS;intro r3 w hS
     have e1:AllU [sl (some ⟨h,0,none⟩) (q+12) (q+12) (List.map (AH .u64) (x.2.1++Au6)) N.Hr2] [x] [(some ⟨h,0,none⟩,q,q+12)] := .cons (Ent.sl mp0) .nil
     replace hS:=(hS.pick (A:=[_,_,_,_]) [1,2,0,0] rfl).both
     replace hS:=hS.pick (A:=[_,_,_]) [2,1,0] rfl
     have e2:=(e1.mono (L':=[_,it]) (Ad4 mp0)).both
     have v:=((hu.mono (L':=[_,it]) (Ad4 mp1)).both).append e2
     refine Bu3 hS (by simp;omega) hu.all.len rfl ((Ent.sl mp1).nw hS) rfl rfl ?_
     clear hS;intro a' c' w hS
     have et:l.take k ++ [x]=l.take (k+1):=by rw [AP,hx];rfl
     rw [et] at v hS
     exact hX _ _ ⟨k+1,a',c',_,_,by omega,wrU (by omega),rfl,v,hS.pick (A:=[_,_,_]) [0,1] rfl⟩ (by dsimp only;rw [wrU (by omega)];omega)
   · have o:k=n:=by simp at hb;omega
     subst o
     refine hJ _ _ ⟨b,cb,hh',it,rfl,?_⟩
     rw [hlen,List.take_length] at hu hS
     rw [hlen]
     exact ⟨hu,hS⟩
 · rintro ⟨s,u⟩ w ⟨b,cb,hh',it,hs,hu,hS⟩
   dsimp only at hs
   subst hs
   have hlh:=hu.all.len
   dsimp only
   refine Aa9 (fun s w'=>∃ (a:Option Addr) (c:Nat),s.1=(a,n+12,c)∧Ho w0 w' (sl a ((n+12)*3) (c*3) (dyC (l++Ax1) (hh'++noH 12)) N.Hs7::it::L)) (fun J hJ=>?_) ?_
   · refine Cz1 (fun s w'=>∃ (k:Nat) (a:Option Addr) (c:Nat),k≤12∧s.2.1=(k:Int)∧s.1=(a,n+k,c)∧Ho w0 w' (sl a ((n+k)*3) (c*3) (dyC (l++Ax1.take k) (hh'++noH k)) N.Hs7::it::L)) (fun s=>12-s.2.1.toNat) ⟨0,b,cb,by omega,rfl,rfl,by
      rw [List.take_zero,AZ,show noH 0 = [] from rfl,AZ];exact hS⟩ ?_
     clear hS
     rintro ⟨s,i,u⟩ w X ⟨k,b,cb,hk,hi,hs,hS⟩ hX
     dsimp only at hi hs
     subst hi;subst hs
     refine Ab7 (fun hb=>?_) (fun hb=>?_)
     · have hlt:k<12:=by simp at hb;omega
       refine Fj8 H (k:=1) (i:=k) hS (by omega) (by omega) fun w hS=>?_
       refine ⟨_,_,_,_,_,rfl,?_⟩
       have hmk:Ax1[k]?=some (false,[],8000024+(k:Int)):=by simp [Ax1,hlt]
       have em:1000003*(((1:Nat):Int)+7)+(k:Int)=8000024+(k:Int):=by omega
       rw [em]
       refine Bm3 (X:=[(false,[],8000024+(k:Int))]) (H:=[(none,0,0)]) (m:=1) hS rfl rfl rfl ?_;clear hS;intro r3 w hS
       replace hS:=ro1 hS
       refine Bu3 hS (by simp [Ax1];omega) (by simp [noH,Ax1,hlh];omega) rfl ((Ent.sl mp1).nw hS) rfl rfl ?_
       clear hS;intro a' c' w hS
       have et:(l++Ax1.take k) ++ [((false,[],8000024+(k:Int)):Dy)]=l++Ax1.take (k+1):=by rw [AX,AP,hmk];rfl
       have eh:(hh'++noH k) ++ [((none,0,0):Hd)]=hh'++noH (k+1):=by rw [AX];unfold noH;rw [List.replicate_succ']
       rw [et,eh] at hS
       exact hX _ _ ⟨k+1,a',c',by omega,wrU (by omega),rfl,hS.pick (A:=[_,_,_]) [0,1] rfl⟩ (by dsimp only;rw [wrU (by omega)];omega)
     · have o:k=12:=by simp at hb;omega
       subst o
       refine hJ _ _ ⟨b,cb,rfl,?_⟩
       rw [AT (by simp [Ax1])] at hS
       exact hS
   · clear hS
     rintro ⟨s,u⟩ w ⟨a',c',hs,hS⟩
     dsimp only at hs
     subst hs
     have hcap:=((Ent.sl mp0).nw hS).cap
     refine ⟨by omega,by dsimp only;omega,?_⟩
     rw [Cu9,AB]
     exact hK a' c' hh' _ w ⟨hlen,Ent.both (L:=[]) (Ent.sl mp0),(hu.mono (L':=[_,it]) (Ad4 mp1)).both⟩ hS.both
end
end Go.Eng
/-
  Matrices of dyads that are lent, looked at again: contracts. No condition.
-/
namespace Go.Eng
open Go
section
variable {N:Nums} {P:Program} (H:AllOk N P)
include H
variable {w0 w:World} {L:List It} {a b:Option Addr} {n c d:Nat} {l:List Dy} {hh h2:List Hd} {K:Value→World→Prop}
theorem Dk7 {r cc:Int} (hS:Ho w0 w L) (hq:Ent L (rdA (dyC l hh) a (n*3) (c*3))) (hg:AllD L l hh) (hn:l.length≤4294967000) (hl:∀ d∈l,d.2.1.length≤4294967000)
 (hK:∀ (a':Option Addr) (c':Nat) (hh':List Hd) (it:It) (f:World),LentD [it] l hh' a' n c'→Ho w0 f (it::L)→K (.agg #[.int .i64 r,.int .i64 cc,.slice a' n c']) f):Aa1 P N.Hh1 #[.agg #[.int .i64 r,.int .i64 cc,.slice a n c]] w K:=by
 refine H.k_LentDyadGrid r cc a n c w _ ?_
 unfold Bm5
 refine Ab2 hS ?_;clear hS;intro g w hS
 refine Ab2 hS ?_;clear hS;intro h w hS
 refine ⟨_,_,_,hS.cel mp1 rfl,?_⟩
 refine Ft1 H hS (hq.mono tl2) (hg.mono tl2) hn hl ?_
 clear hS;intro a' c' hh' it w hz hS
 refine ⟨_,_,_,rfl,?_⟩
 replace hS:=ro2 hS
 refine Aa8 hS rfl rfl ?_;clear hS;intro w hS
 refine ⟨_,hS.cel mp0 rfl,_,hS.cel mp0 rfl,_,_,_,hS.cel mp0 rfl,?_⟩
 replace hS:=ro2 hS
 refine Aa8 hS rfl rfl ?_;clear hS;intro w hS
 refine Aa8 hS rfl rfl ?_;clear hS;intro w hS
 refine Aa8 hS rfl rfl ?_;clear hS;intro w hS
 exact ⟨_,hS.cel mp0 rfl,_,hS.cel mp0 rfl,_,_,_,hS.cel mp0 rfl,hK _ _ _ _ _ hz (hS.pick (A:=[_,_,_]) [2] rfl)⟩
theorem Fv5 (hS:Ho w0 w L) (hz:LentD L l hh a n c) (hq:Ent L (rdA (dyC l h2) b (n*3) (d*3))) (hg:AllD L l h2) (hn:l.length≤4294967000) (hl:∀ x∈l,Au4 x.1 x.2.1 x.2.2 x.1 x.2.1 x.2.2=some true)
 (hs:∀ e,Am8 false [] e false [] e=some true) (hK:∀ r:World,Ho w0 r L→K (.bool true) r):Aa1 P N.Hj5 #[.slice a n c,.slice b n d] w K:=by
 refine H.k_KeptDyads a n c b n d w _ ?_
 unfold Bx2
 have hlen:=hz.len
 have hcap:=(hz.main.nw hS).cap
 have hal:=hz.all.len
 have hmn:(l++Ax1).length=n+12:=by simp [Ax1];omega
 have hml:(l++Ax1).length=(hh++noH 12).length:=by simp [Ax1,noH];omega
 refine Ab7 (fun h=>by simp at h) (fun _=>?_)
 have hw:i64.wrap ((n:Int)+12)=((n+12:Nat):Int):=by rw [← wrN (n:=n+12) (by omega)];rfl
 rw [hw,AB]
 refine ⟨by omega,by omega,?_⟩
 refine Aa9 (fun s w'=>Ho w0 w' L) (fun J hJ=>?_) (fun s w' h=>hK w' h)
 refine Cz1 (fun s w'=>∃ k:Nat,k≤n+12∧s.1=(k:Int)∧Ho w0 w' L) (fun s=>n+12-s.1.toNat) ⟨0,by omega,rfl,hS⟩ ?_
 clear hS
 rintro ⟨i,u⟩ w X ⟨k,hk,hi,hS⟩ hX
 dsimp only at hi
 subst hi
 have step:∀ w',Ho w0 w' L→k<n+12→X (i64.wrap ((k:Int)+1),u) w':=fun w' h' hlt=>by
  have hw:i64.wrap ((k:Int)+1)=((k+1:Nat):Int):=by rw [← wrN (n:=k+1) (by omega)];rfl
  exact hX _ _ ⟨k+1,by omega,hw,h'⟩ (by dsimp only;rw [hw];omega)
 rw [Cu9]
 refine Ab7 (fun hb=>?_) (fun _=>hJ _ _ hS)
 have hlt:k<n+12:=by simp at hb;omega
 refine Ab7 (fun hb=>?_) (fun hb=>?_)
 · have hkn:k<n:=by simp at hb;omega
   have hx:l[k]?=some (l[k]'(by omega)):=AD (by omega)
   generalize hxd:l[k]'(by omega)=x at hx
   obtain ⟨q,m,t,v⟩:=hz.each.get hx
   obtain ⟨g',g3,g4⟩:=hg.get hx
   have f:(l++Ax1)[(k:Int).toNat]?=some x:=by rw [AB,AG (by omega)];exact hx
   have y1:(hh++noH 12)[(k:Int).toNat]?=some (q,m,m+12):=by rw [AB,AG (by omega)];exact t
   refine Ah3 (i:=(k:Int)) hml (hz.main.nw hS) (by omega) (by rw [AB,hmn];exact hlt) fun y hy=>?_
   refine ⟨_,Bq3 (hz.main.nw hS) hy f y1,_,_,_,Bm9 (hz.main.nw hS) hy f y1,_,Bj1 (hz.main.nw hS) hy f y1,?_⟩
   have g:l[(k:Int).toNat]?=some x:=by rw [AB];exact hx
   have y2:h2[(k:Int).toNat]?=some g':=by rw [AB];exact g3
   refine Ah3 (i:=(k:Int)) hg.len (hq.nw hS) (by omega) (by simp;omega) fun z o=>?_
   refine ⟨_,Bq3 (hq.nw hS) o g y2,_,_,_,Bm9 (hq.nw hS) o g y2,_,Bj1 (hq.nw hS) o g y2,?_⟩
   refine Aa7 hS fun w hS=>?_
   refine Cc4 H hS v g4 (hl x (hxd ▸ AI _)) fun w hS=>?_
   refine ⟨_,rfl,Ab7 (fun _=>?_) (fun h=>by cases h)⟩
   refine Ab7 (fun h=>by simp at h;omega) (fun _=>?_)
   exact Aa7 hS fun w hS=>Aa7 hS fun w hS=>Aa7 hS fun w hS=>step w hS hlt
 · have hkn:n≤k:=by simp at hb;omega
   refine Aa7 hS fun w hS=>?_
   refine Ab7 (fun _=>?_) (fun h=>by simp at h;omega)
   have hmk:Ax1[k-n]?=some (false,[],8000024+((k-n:Nat):Int)):=by simp [Ax1,show k-n<12 by omega]
   have f:(l++Ax1)[(k:Int).toNat]?=some (false,[],8000024+((k-n:Nat):Int)):=by rw [AB,AO (by omega),← hlen];exact hmk
   have y1:(hh++noH 12)[(k:Int).toNat]?=some (none,0,0):=by
    rw [AB,AO (by omega),← hal,← hlen]
    unfold noH
    rw [List.getElem?_replicate,if_pos (by omega)]
   refine Ah3 (i:=(k:Int)) hml (hz.main.nw hS) (by omega) (by rw [AB,hmn];exact hlt) fun y hy=>?_
   refine ⟨_,Bq3 (hz.main.nw hS) hy f y1,_,_,_,Bm9 (hz.main.nw hS) hy f y1,_,Bj1 (hz.main.nw hS) hy f y1,?_⟩
   refine Aa7 hS fun w hS=>?_
   have hsub:i64.wrap ((k:Int)-(n:Int))=((k-n:Nat):Int):=by rw [wrI (by omega) (by omega)];omega
   dsimp only
   rw [hsub]
   refine Fj8 H (k:=1) (i:=k-n) hS (by omega) (by omega) fun w hS=>?_
   refine ⟨_,_,_,_,_,rfl,Bq3 (hz.main.nw hS) hy f y1,Bm9 (hz.main.nw hS) hy f y1,Bj1 (hz.main.nw hS) hy f y1,?_⟩
   refine Aa7 hS fun w hS=>?_
   refine Bj5 H hS (l0_1:=[]) (l1_1:=[]) (Ent.nil (enc:=AH .u64) _) (Ent.nil (enc:=AH .u64) _) (by
    rw [show 1000003*(((1:Nat):Int)+7)+((k-n:Nat):Int)=8000024+((k-n:Nat):Int) by omega]
    exact hs _) fun w hS=>?_
   refine ⟨_,rfl,Aa7 hS fun w hS=>Ab7 (fun h=>by cases h) (fun _=>step w hS hlt)⟩
theorem Gi5 {r cc:Int} (hS:Ho w0 w L) (hz:LentD L l hh a n c) (hq:Ent L (rdA (dyC l h2) b (n*3) (d*3))) (hg:AllD L l h2) (hn:l.length≤4294967000) (hl:∀ x∈l,Au4 x.1 x.2.1 x.2.2 x.1 x.2.1 x.2.2=some true)
 (hs:∀ e,Am8 false [] e false [] e=some true) (hsl:Ak7 l l=some true) (hK:∀ f:World,Ho w0 f L→K (.bool true) f):Aa1 P N.Hh4 #[.agg #[.int .i64 r,.int .i64 cc,.slice a n c],.agg #[.int .i64 r,.int .i64 cc,.slice b n d]] w K:=by
 refine H.k_KeptDyadGrid r cc a n c r cc b n d w _ ?_
 unfold Bn0
 refine Ab2 hS ?_;clear hS;intro g w hS
 refine Ab2 hS ?_;clear hS;intro o w hS
 refine ⟨_,hS.cel mp1 rfl,_,hS.cel mp1 rfl,_,_,_,hS.cel mp1 rfl,_,hS.cel mp0 rfl,_,hS.cel mp0 rfl,_,_,_,hS.cel mp0 rfl,?_⟩
 refine Ce4 H hS (hz.ent.mono tl2) (hz.all.mono tl2) (hq.mono tl2) (hg.mono tl2) (u0:=true) (by
  unfold Ba6
  rw [hsl];simp) fun w hS=>?_
 refine ⟨_,rfl,Ab7 (fun _=>?_) (fun h=>by cases h)⟩
 refine ⟨_,_,_,hS.cel mp1 rfl,_,_,_,hS.cel mp0 rfl,?_⟩
 refine Fv5 H hS (hz.mono tl2) (hq.mono tl2) (hg.mono tl2) hn hl hs fun w hS=>?_
 exact ⟨_,rfl,hK w (hS.pick (A:=[_,_]) [] rfl)⟩
end
end Go.Eng
/-
  The law InertiaTells is true. No condition.
-/
namespace Go.Eng
open Go Go.Ine
section
variable {N:Nums} {P:Program} (H:AllOk N P)
include H
theorem Gd3 {r c e0:Int} {b0:Bool} {a sa:Option Addr} {n cc na ma:Nat} {l:List Dy} {hh:List Hd} {la:List Int} {w0 w:World} {L:List It} {K:Value→World→Prop} (hS:Ho w0 w L)
 (hq:Ent L (rdA (dyC l hh) a (n*3) (cc*3))) (hg:AllD L l hh) (hx:Ent L (rdA (la.map (AH .u64)) sa na ma)) (hl:LdL l) (hn:l.length≤1048576) (ac:∀ d∈l,d.2.1.length≤1048576) (hla:Ld la)
 (hK:∀ (L':List It) (w1:World),Ho w0 w1 L'→K (.bool true) w1) :
 Aa1 P N.Hg8 #[.agg #[.int .i64 r,.int .i64 c,.slice a n cc],.agg #[.bool b0,.slice sa na ma,.int .i64 e0]] w K:=by
 refine H.w16_InertiaTells r c a n cc b0 sa na ma e0 w _ ?_
 unfold Be4
 have hna:na=la.length:=by
  have:=(hx.nw hS).len
  rwa [List.length_map] at this
 obtain ⟨g,hgr,_⟩:=Dj7 (r:=r) (c:=c) (l:=l) (by omega)
 refine Ab2 hS ?_;clear hS;intro r1 w hS
 refine Ab2 hS ?_;clear hS;intro r2 w hS
 refine Aa9 (fun s w'=>(s.1=false→g=false∧la.length≤300)∧Ho w0 w' (cl r2 [.bool b0,.slice sa na ma,.int .i64 e0] N.Hs7::cl r1 [.int .i64 r,.int .i64 c,.slice a n cc] N.Hs3::L)) (fun J hJ=>?_) ?_
 · refine ⟨_,hS.cel mp1 rfl,_,hS.cel mp1 rfl,_,_,_,hS.cel mp1 rfl,?_⟩
   refine Dt0 H hS (hq.mono tl2) (hg.mono tl2) hgr fun w hS=>?_
   refine ⟨_,rfl,Ab7 (fun h=>?_) (fun h=>?_)⟩
   · refine ⟨_,_,_,hS.cel mp0 rfl,hJ _ _ ⟨fun h2=>?_,hS⟩⟩
     have h2:=of_decide_eq_false h2
     exact ⟨by simpa using h,by omega⟩
   · exact hJ _ _ ⟨fun h2=>(by cases h2),hS⟩
 clear hS
 rintro ⟨s,u⟩ w ⟨hs,hS⟩
 dsimp only at hs ⊢
 refine Ab7 (fun _=>?_) (fun h=>?_)
 · refine Cf9 H hS Fg5 fun w hS=>?_
   exact ⟨_,rfl,hK _ _ hS⟩
 obtain ⟨hgf,ak⟩:=hs h
 rw [hgf] at hgr
 clear hgf h
 have hld:Ba2 b0 la e0=some (b0,la,e0):=by
  unfold Ba2 Av6
  rw [decide_eq_true (show la.length≤4294967000 by omega)];rfl
 refine Aa9 (fun s w'=>∃ (M:List It) (r3 r4 q:Nat) (a':Option Addr) (c':Nat) (hh':List Hd) (it:It),s.1=some ⟨r3,0,none⟩∧s.2.1=some ⟨r4,0,none⟩∧(∀ e,e∈L→e∈M)∧cl r3 [.int .i64 r,.int .i64 c,.slice a' n c'] N.Hs3∈M∧cl r4 [.bool b0,.slice (some ⟨q,0,none⟩) na (na+12),.int .i64 e0] N.Hs7∈M ∧
  cl r2 [.bool b0,.slice sa na ma,.int .i64 e0] N.Hs7∈M∧cl r1 [.int .i64 r,.int .i64 c,.slice a n cc] N.Hs3∈M∧it∈M∧sl (some ⟨q,0,none⟩) (na+12) (na+12) (List.map (AH .u64) (la++Au6)) N.Hr2∈M∧LentD [it] l hh' a' n c'∧Ho w0 w' M) (fun J hJ=>?_) ?_
 · have aa:l.length≤4294967000:=by omega
   have ab:∀ d∈l,d.2.1.length≤4294967000:=fun d hd=>by have:=ac d hd;omega
   refine ⟨_,hS.cel mp1 rfl,_,hS.cel mp1 rfl,_,_,_,hS.cel mp1 rfl,_,hS.cel mp0 rfl,_,_,_,hS.cel mp0 rfl,_,hS.cel mp0 rfl,?_⟩
   repeat (first
    | exact hJ _ _ ⟨_,_,_,q,a',c',hh',it,rfl,rfl,tl6,(by first | exact mp0 | exact mp1 | exact mp2 | exact mp3 | exact mp4 | exact mp5),(by first | exact mp0 | exact mp1 | exact mp2 | exact mp3 | exact mp4 | exact mp5),(by first | exact mp0 | exact mp1 | exact mp2 | exact mp3 | exact mp4 | exact mp5),(by first | exact mp0 | exact mp1 | exact mp2 | exact mp3 | exact mp4 | exact mp5),(by first | exact mp0 | exact mp1 | exact mp2 | exact mp3 | exact mp4 | exact mp5),(by first | exact mp0 | exact mp1 | exact mp2 | exact mp3 | exact mp4 | exact mp5),hz,hS⟩
    | (refine Aa7 hS ?_;clear hS;intro w hS)
    | refine ⟨hS.cel mp0 rfl,?_⟩
    | refine ⟨hS.cel mp1 rfl,?_⟩
    | refine ⟨hS.cel mp2 rfl,?_⟩
    | refine ⟨hS.cel mp3 rfl,?_⟩
    | refine ⟨hS.cel mp4 rfl,?_⟩
    | refine ⟨hS.cel mp5 rfl,?_⟩
    | (refine Ab2 hS ?_;clear hS;intro _ w hS)
    | (refine Aa8 hS rfl rfl ?_;clear hS;intro w hS)
    | (refine Aa8 (ro1 hS) rfl rfl ?_;clear hS;intro w hS)
    | (refine Aa8 (ro2 hS) rfl rfl ?_;clear hS;intro w hS)
    | (refine Aa8 (ro3 hS) rfl rfl ?_;clear hS;intro w hS)
    | (refine Aa8 (ro4 hS) rfl rfl ?_;clear hS;intro w hS)
    | (refine Aa8 (ro5 hS) rfl rfl ?_;clear hS;intro w hS)
    | (refine Dk7 H hS (hq.mono tl2) (hg.mono tl2) aa ab ?_;clear hS;intro a' c' hh' it w hz hS;refine ⟨_,_,_,_,_,rfl,?_⟩)
    | (refine Dk7 H hS (hq.mono tl3) (hg.mono tl3) aa ab ?_;clear hS;intro a' c' hh' it w hz hS;refine ⟨_,_,_,_,_,rfl,?_⟩)
    | (refine Dk7 H hS (hq.mono tl4) (hg.mono tl4) aa ab ?_;clear hS;intro a' c' hh' it w hz hS;refine ⟨_,_,_,_,_,rfl,?_⟩)
    | (refine Dk7 H hS (hq.mono tl5) (hg.mono tl5) aa ab ?_;clear hS;intro a' c' hh' it w hz hS;refine ⟨_,_,_,_,_,rfl,?_⟩)
    | (refine Aw5 H hS (hx.mono tl2) hld ?_;clear hS;intro q w _ hS;refine ⟨_,_,_,_,_,rfl,?_⟩)
    | (refine Aw5 H hS (hx.mono tl3) hld ?_;clear hS;intro q w _ hS;refine ⟨_,_,_,_,_,rfl,?_⟩)
    | (refine Aw5 H hS (hx.mono tl4) hld ?_;clear hS;intro q w _ hS;refine ⟨_,_,_,_,_,rfl,?_⟩)
    | (refine Aw5 H hS (hx.mono tl5) hld ?_;clear hS;intro q w _ hS;refine ⟨_,_,_,_,_,rfl,?_⟩)
    | refine ⟨?_,?_⟩)
 · clear hS
   rintro ⟨p3,p4,u⟩ w ⟨M,r3,r4,q,a',c',hh',it,h3,h4,hL,t,m4,m2,v,mi,mq,hz,hS⟩
   dsimp only at h3 h4
   subst h3 h4
   replace hz:=hz.mono (Ad4 mi)
   have lq:Ent M (rdA (List.map (AH .u64) (la++Au6)) (some ⟨q,0,none⟩) (na+12) (na+12)):=Ent.sl mq
   have lx:Ent M (rdA (List.map (AH .u64) la) (some ⟨q,0,none⟩) na (na+12)):=Ent.lent lq rfl rfl
   replace hq:=hq.mono hL
   replace hg:=hg.mono hL
   replace hx:=hx.mono hL
   obtain ⟨⟨bt,R1,R2⟩,⟨bs,S1,S2⟩,⟨u0,u1,u2,u3,ad,ae⟩,⟨v0,v1,af,ag⟩,⟨pu,pe,ah,ai,aj⟩⟩:=Gj6 (x:=(b0,la,e0)) hl hn hla (show la.length≤4294967296 by omega) hgr
   refine Ac0 ⟨_,hS.cel t rfl,_,hS.cel t rfl,_,_,_,hS.cel t rfl,?_⟩
   refine Bn2 H hS hz.ent hz.all ad ?_;clear hS;intro w hS
   refine ⟨_,_,_,_,rfl,?_⟩
   refine Ab2 hS ?_;clear hS;intro r5 w hS
   refine Aa8 hS rfl rfl ?_;clear hS;intro w hS
   refine Aa8 hS rfl rfl ?_;clear hS;intro w hS
   refine Aa8 hS rfl rfl ?_;clear hS;intro w hS
   refine ⟨_,hS.cel (.tail _ v) rfl,_,hS.cel (.tail _ v) rfl,_,_,_,hS.cel (.tail _ v) rfl,?_⟩
   refine Dt2 H hS tl1 (hq.mono tl1) hg ae ?_;clear hS;intro w hS
   refine ⟨_,_,_,_,rfl,?_⟩
   refine Ab2 hS ?_;clear hS;intro r6 w hS
   refine Aa8 hS rfl rfl ?_;clear hS;intro w hS
   refine Aa8 hS rfl rfl ?_;clear hS;intro w hS
   refine Aa8 hS rfl rfl ?_;clear hS;intro w hS
   have f:=fun e=>tl2 (L:=M) (y1:=cl r6 [.int .i64 u0,.int .i64 u1,.int .i64 u2] N.Hs2) (y2:=cl r5 [.int .i64 u0,.int .i64 u1,.int .i64 u2] N.Hs2) e
   refine Ac0 ⟨_,hS.cel (f _ t) rfl,_,hS.cel (f _ t) rfl,_,_,_,hS.cel (f _ t) rfl,?_⟩
   refine Ac0 ⟨_,hS.cel (f _ m4) rfl,_,_,_,hS.cel (f _ m4) rfl,_,hS.cel (f _ m4) rfl,?_⟩
   refine Bm8 H hS (hz.ent.mono f) (hz.all.mono f) (lx.mono f) af ?_;clear hS;intro w hS
   refine ⟨_,_,rfl,_,hS.cel (f _ v) rfl,_,hS.cel (f _ v) rfl,_,_,_,hS.cel (f _ v) rfl,_,hS.cel (f _ m2) rfl,_,_,_,hS.cel (f _ m2) rfl,_,hS.cel (f _ m2) rfl,?_⟩
   refine Dt5 H hS f (hq.mono f) hg hx ag ?_;clear hS;intro w hS
   refine ⟨_,_,rfl,?_⟩
   refine Ac0 ⟨_,hS.cel (f _ t) rfl,_,hS.cel (f _ t) rfl,_,_,_,hS.cel (f _ t) rfl,?_⟩
   refine Bo1 H hS (hz.ent.mono f) (hz.all.mono f) ah ?_;clear hS;intro pa pn pc ph pi w pall hS
   refine ⟨_,_,_,_,rfl,_,hS.cel (tl2 _ (f _ v)) rfl,_,hS.cel (tl2 _ (f _ v)) rfl,_,_,_,hS.cel (tl2 _ (f _ v)) rfl,?_⟩
   refine Eg8 H hS (fun e h=>tl2 e (f e h)) ((hq.mono f).mono tl2) hg ai ?_;clear hS;intro qa qn qc qh qi w qall hS
   refine ⟨_,_,_,_,rfl,?_⟩
   have o:∀ e,e∈M→e∈_:=fun e h=>tl2 (y1:=sl qa (qn*3) (qc*3) (dyC pu qh) N.Hs7) (y2:=qi) e (tl2 (y1:=sl pa (pn*3) (pc*3) (dyC pu ph) N.Hs7) (y2:=pi) e (f e h))
   have n1:=o _ v
   refine Aa9 (fun s w'=>s.1=false∧∃ M':List It,(∀ e,e∈M→e∈M')∧Ho w0 w' M') (fun J hJ=>?_) ?_
   · refine ⟨_,hS.cel mp5 rfl,_,hS.cel mp5 rfl,_,hS.cel mp5 rfl,_,hS.cel mp4 rfl,_,hS.cel mp4 rfl,_,hS.cel mp4 rfl,?_⟩
     repeat (first
     | (refine Aa7 hS ?_;clear hS;intro w hS)
     | refine ⟨hS.cel mp4 rfl,?_⟩
     | refine ⟨hS.cel mp5 rfl,?_⟩
     | refine ⟨hS.cel n1 rfl,?_⟩
     | (refine Ab7 (fun _=>?_) (fun h=>by simp at h))
     | (refine Bg6 H hS (Ent.sl mp2) (pall _ mp3) (Ent.sl mp0) (qall.mono (fun e h=>by
      rcases List.mem_cons.1 h with h | h
      · rw [h];exact mp1
      · exact o e h)) aj ?_;clear hS;intro w hS;refine ⟨_,rfl,?_⟩)
     | (refine Bn4 H hS (hz.ent.mono o) (hz.all.mono o) R1 ?_;clear hS;intro w hS;refine ⟨_,rfl,?_⟩)
     | (refine Cj2 H hS (hq.mono o) (hg.mono o) R2 ?_;clear hS;intro w hS;refine ⟨_,rfl,?_⟩)
     | (refine Al2 H hS (hz.ent.mono o) (hz.all.mono o) S1 ?_;clear hS;intro w hS;refine ⟨_,rfl,?_⟩)
     | (refine As8 H hS (hq.mono o) (hg.mono o) S2 ?_;clear hS;intro w hS;refine ⟨_,rfl,?_⟩)
     | refine Ac0 ⟨_,hS.cel (o _ t) rfl,_,hS.cel (o _ t) rfl,_,_,_,hS.cel (o _ t) rfl,_,hS.cel n1 rfl,_,hS.cel n1 rfl,_,_,_,hS.cel n1 rfl,?_⟩)
     exact hJ _ _ ⟨by simp,_,o,hS⟩
   · clear hS
     rintro ⟨s,u⟩ w ⟨hs,M',hM,hS⟩
     dsimp only at hs ⊢
     subst hs
     have k1:=hM _ v
     have k2:=hM _ m2
     have k3:=hM _ t
     have k4:=hM _ m4
     refine Ab7 (fun h=>by cases h) (fun _=>?_)
     refine Ac0 ⟨_,hS.cel k3 rfl,_,hS.cel k3 rfl,_,_,_,hS.cel k3 rfl,_,hS.cel k1 rfl,_,hS.cel k1 rfl,_,_,_,hS.cel k1 rfl,?_⟩
     refine Gi5 H hS (hz.mono hM) (hq.mono hM) (hg.mono hM) (by omega) (fun x hx=>El3 (by have:=ac x hx;omega)) (fun e=>by rw [Cr8 (by simp)];simp) (Ej0 (fun d hd=>by have:=ac d hd;omega) (by omega)) ?_
     clear hS;intro w hS
     refine ⟨_,rfl,Ab7 (fun _=>?_) (fun h=>by cases h)⟩
     refine Ac0 ⟨_,hS.cel k4 rfl,_,_,_,hS.cel k4 rfl,_,hS.cel k4 rfl,_,hS.cel k2 rfl,_,_,_,hS.cel k2 rfl,_,hS.cel k2 rfl,?_⟩
     refine Cc4 H hS (lq.mono hM) (hx.mono hM) (El3 (by omega)) ?_
     clear hS;intro w hS
     refine ⟨_,rfl,Ab7 (fun _=>?_) (fun h=>by cases h)⟩
     refine Cf9 H hS Fg5 fun w hS=>?_
     exact ⟨_,rfl,hK _ _ hS⟩
theorem Fk8 {r c o:Int} {q:Bool} {a sa:Option Addr} {n cc na ma:Nat} {l:List Dy} {hh:List Hd} {la:List Int} {w:World} (hD:rdA (dyC l hh) a (n*3) (cc*3) w) (hl:l.length=n) (u:hh.length=n)
 (hE:∀ i,i<n→∃ d g,l[i]?=some d∧hh[i]?=some g∧rdA (d.2.1.map (AH .u64)) g.1 g.2.1 g.2.2 w) (hW:∀ d∈l,(∀ y∈d.2.1,(Lit.int .u64 y).wf=true)∧d.2.1.length≤1048576) (kn:n≤1048576)
 (hA:rdA (la.map (AH .u64)) sa na ma w) (ka:na≤1048576) (wa:∀ y∈la,(Lit.int .u64 y).wf=true) :
 Aa1 P N.Hg8 #[.agg #[.int .i64 r,.int .i64 c,.slice a n cc],.agg #[.bool q,.slice sa na ma,.int .i64 o]] w fun v w'=>v = .bool true∧∃ M,St w w' M:=by
 obtain ⟨M,s,f,t,_⟩:=Cy4 (l:=l) (hh:=hh) (by omega) (by rw [hl];exact hE) (Ho.start w) Gi7
 have hS:=(s.arg f hA).arg (Em9 rfl f) hD
 have lw:∀ {l:List Int},(∀ y∈l,(Lit.int .u64 y).wf=true)→Ld l:=fun h y hy=>by
  have:=h y hy
  simp [Lit.wf,IntKind.min,IntKind.max,IntKind.signed,IntKind.bits] at this
  omega
 exact Gd3 H hS (Ent.rd mp0) (t.mono tl2) (Ent.rd mp1) (fun d hd=>⟨lw (hW d hd).1,by have:=(hW d hd).2;omega⟩) (by omega) (fun d hd=>(hW d hd).2) (lw wa) fun L' w1 h=>⟨rfl,h.some_old⟩
end
end Go.Eng
