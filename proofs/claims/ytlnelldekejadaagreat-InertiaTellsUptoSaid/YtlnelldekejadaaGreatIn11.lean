/-
  inertia: scaled by value: the parts. No condition.
-/
import Derived.Test.YtlnelldekejadaaGreatMx23
import Derived.Test.YtlnelldekejadaaGreatMx24
import Derived.Test.YtlnelldekejadaaGreatDy5
import Derived.Test.YtlnelldekejadaaGreatDyN
import Derived.Test.YtlnelldekejadaaGreatIne5
import Derived.Test.YtlnelldekejadaaGreatWkL
import Derived.Test.YtlnelldekejadaaGreatCh10
set_option linter.all false
set_option maxRecDepth 100000
set_option maxHeartbeats 4000000
open Go.IntKind (i64 u64)
open Option renaming bind_some→AA,getD_some→AD,bind_assoc→BA
open List renaming getD_eq_getElem?_getD→AB,getElem?_eq_getElem→AC,getElem_mem→AF,getElem?_map→AH,getElem?_range→AI,mem_cons_self→AN,getElem?_replicate→AP,getElem?_eq_none→AR,mem_cons_of_mem→AU,any_eq_false→BE,append_assoc→BF,ext_getElem→BG,append_nil→BI
open Nat renaming two_pow_pos→AE,mul_le_mul→AL,pow_add→AS,pow_le_pow_right→AV,mul_le_mul_right→AX,lt_of_le_of_lt→AZ,pow_succ→BC,zero_mul→BD,le_refl→BH
open Int renaming toNat_natCast→AG,natCast_mul→AJ,natAbs_natCast→AK,mul_le_mul_of_nonneg_left→AM,mul_assoc→AO,le_refl→AT,mul_ediv_cancel→AY,le_trans→BB
open Rat renaming intCast_mul→AQ
open Decidable renaming of_not_not→AW
namespace Go.Eng
open Go
theorem Fq8 {s:Bool} {l:List Int} {e low:Int} (h:Ld l) (hl:l.length≤256) (a:l ≠ []→low≤e) (g:e-low≤200000) (i : -200000≤e-low):Ah4 s l e low=some (zD s l*((2^(e-low).toNat:Nat):Int)):=by
 have hw:=Ei8 (s:=s) (e:=e) h (by omega)
 have d:Ah4 s l e low=cond (((l.length:Nat):Int)==0) (some 0) ((Ai4 s l e).bind fun z=>(Bf5 z (u64.wrap (i64.wrap (e-low)))).bind fun t=>some t):=by
  unfold Ah4 Ai4
  rw [AA,AA,AA,BA]
  simp only [BA,AA]
  rfl
 rw [d,hw]
 cases l with
 | nil=>
   rw [Ab0 (by simp)]
   show some 0=some (sgN s 0*_)
   cases s<;>simp [sgN]
 | cons x l=>
   rw [Ab1 (by simp;omega),AA]
   have hle:=a (by simp)
   obtain ⟨k,hk⟩:∃ k:Nat,e-low=k:=⟨(e-low).toNat,by omega⟩
   rw [hk,wrN (by omega),w64,AG]
   have f:((k:Nat):Int)%18446744073709551616=(k:Int):=by omega
   have hb:=Bl1 h
   have hz:(sgN s (lv (x::l))).natAbs=lv (x::l):=Ei0 s _
   unfold Bf5
   rw [f,if_pos ⟨by omega,by omega⟩,Ay1 (b:=64*(x::l).length) (by rw [hz];exact hb) (by omega),AA,AG,
    Ay1 (b:=64*(x::l).length+k) (Cc7 hz hb) (by omega),AA]
   rfl
def vI (low:Int) (d:Dy):Int:=zD d.1 d.2.1*((2^(d.2.2-low).toNat:Nat):Int)
abbrev GdD (d:Dy):Prop:=Gd d.1 d.2.1 d.2.2
abbrev nDD (d:Dy):Int:=nD d.1 d.2.1 d.2.2
theorem Gj5 {low:Int} {d:Dy} (h:d.2.1 ≠ []→low≤d.2.2) (e : -65536≤low):vI low d*((2^(low+65536).toNat:Nat):Int)=nDD d:=by
 unfold vI nDD nD
 by_cases a:d.2.1 = []
 · have:zD d.1 d.2.1=0:=by rw [a];unfold zD sgN lv;cases d.1<;>rfl
   rw [this];simp
 · have:=h a
   rw [AO,← AJ,← AS,show (d.2.2-low).toNat+(low+65536).toNat=(d.2.2+65536).toNat by omega]
theorem Fh7 {low:Int} {d:Dy} (h:GdD d) (a : -65536≤low) {b:Nat} (hb:147456≤b):(vI low d).natAbs<2^b:=by
 unfold vI
 have hl:=Bl1 h.ld.1
 have e:=h.ld
 have:=Cc7 (j:=(d.2.2-low).toNat) (Cy1 d.1 d.2.1) hl
 exact Al5 this (by omega)
theorem Eg0:∀ (D:List Dy) (e:Int),Cd1 D e≤e
 | [],e=>AT _
 | d::D,e=>by
   unfold Cd1
   have:=Eg0 D (cond (decide (((d.2.1.length:Nat):Int)>0)) (if d.2.2<e then d.2.2 else e) e)
   refine BB this ?_
   cases decide (((d.2.1.length:Nat):Int)>0)
   · exact AT _
   · rw [cT];split<;>omega
theorem Dj2:∀ (D:List Dy) (e:Int) (d:Dy),d∈D→d.2.1 ≠ []→Cd1 D e≤d.2.2
 | x::D,e,d,h,a=>by
   unfold Cd1
   rcases List.mem_cons.1 h with rfl | h
   · refine BB (Eg0 D _) ?_
     have:0<d.2.1.length:=List.length_pos_iff.2 a
     rw [decide_eq_true (by omega),cT]
     split<;>omega
   · exact Dj2 D _ d h a
theorem Fi2:∀ (D:List Dy) (e m:Int),m≤e→(∀ d∈D,m≤d.2.2)→m≤Cd1 D e
 | [],e,m,h,_=>h
 | x::D,e,m,h,hD=>by
   unfold Cd1
   refine Fi2 D _ m ?_ fun d hd=>hD d (AU _ hd)
   have:=hD x (AN ..)
   cases decide (((x.2.1.length:Nat):Int)>0)
   · exact h
   · rw [cT];split<;>omega
def stp (s:Int×Int) (v:Int):Int×Int:=if v=0 then s else ((if ((tzN v.natAbs:Nat):Int)<s.1 then ((tzN v.natAbs:Nat):Int) else s.1),(if ((blN v.natAbs:Nat):Int)>s.2 then ((blN v.natAbs:Nat):Int) else s.2))
theorem Ff2 (n:Nat):2^tzN n ∣ n:=by
 by_cases a:n=0
 · subst a;exact Nat.dvd_zero _
 · induction n using Nat.strongRecOn with
   | ind n ih=>
     rw [Cx1,if_neg a]
     by_cases d:n%2=1
     · rw [if_pos d];exact Nat.one_dvd _
     · rw [if_neg d,BC]
       obtain ⟨c,hc⟩:=ih (n/2) (by omega) (by omega)
       refine ⟨c,?_⟩
       have:n=n/2*2:=by omega
       rw [Nat.mul_right_comm,← hc];exact this
theorem El6 {n b:Nat} (h:n<2^b) (a:n≠0):tzN n<b:=by
 have:=Ge3 a
 rcases Nat.lt_or_ge (tzN n) b with g | g
 · exact g
 · have:=AV (show 0<2 by decide) g
   omega
theorem Fs6 {s:Int×Int} {v:Int} {b:Nat} (hv:v.natAbs<2^b) (hb:b≤1000000):Cs7 s v=some (stp s v):=by
 unfold Cs7 stp
 by_cases a:v=0
 · rw [if_pos a,a];rfl
 · rw [if_neg a,Ab0 (by unfold sgn;split<;>simp [a])]
   have ht:=El6 hv (by omega)
   unfold Af2 Be1
   rw [Ay1 hv (by omega),AA,AA,AA,AA,wrN (by omega)]
def Sn (S:Int→Prop) (s:Int×Int):Prop:=
 ((∀ v,S v→v=0)∧s=(1073741824,0)) ∨
 ((∃ v,S v∧v≠0∧s.1=((tzN v.natAbs:Nat):Int))∧(∀ v,S v→v≠0→s.1≤((tzN v.natAbs:Nat):Int))∧(∃ v,S v∧v≠0∧s.2=((blN v.natAbs:Nat):Int))∧∀ v,S v→((blN v.natAbs:Nat):Int)≤s.2)
theorem Sn.step {S S':Int→Prop} {s:Int×Int} {v:Int} {b:Nat} (h:Sn S s) (hv:v.natAbs<2^b) (hb:b≤1000000) (hS:∀ y,S' y↔S y∨y=v):Sn S' (stp s v):=by
 unfold stp
 by_cases d:v=0
 · rw [if_pos d]
   subst d
   rcases h with ⟨i,f⟩ | ⟨⟨a,k,m,o⟩,f,⟨c,p,q,j⟩,r⟩
   · exact .inl ⟨fun y hy=>((hS y).1 hy).elim (i y) id,f⟩
   · refine .inr ⟨⟨a,(hS a).2 (.inl k),m,o⟩,fun y hy hn=>((hS y).1 hy).elim (fun g=>f y g hn) fun g=>absurd g hn,⟨c,(hS c).2 (.inl p),q,j⟩,fun y hy=>((hS y).1 hy).elim (r y) fun g=>?_⟩
     subst g
     have e:blN (0:Int).natAbs=0:=rfl
     rw [e,j]
     omega
 · rw [if_neg d]
   have ht:=El6 hv (by omega)
   have hp:=Dm2 (n:=v.natAbs) (by omega)
   rcases h with ⟨i,rfl⟩ | ⟨⟨a,k,m,o⟩,f,⟨c,p,q,j⟩,r⟩
   · refine .inr ⟨⟨v,(hS v).2 (.inr rfl),d,by dsimp only;rw [if_pos (by omega)]⟩,fun y hy hn=>((hS y).1 hy).elim (fun g=>absurd (i y g) hn) fun g=>?_,⟨v,(hS v).2 (.inr rfl),d,by dsimp only;rw [if_pos (by omega)]⟩,fun y hy=>((hS y).1 hy).elim (fun g=>?_) fun g=>?_⟩
     · subst g;dsimp only;rw [if_pos (by omega)];exact AT _
     · have:=i y g
       subst this
       have e:blN (0:Int).natAbs=0:=rfl
       rw [e];dsimp only;split<;>omega
     · subst g;dsimp only;rw [if_pos (by omega)];exact AT _
   · refine .inr ⟨?_,fun y hy hn=>((hS y).1 hy).elim (fun g=>?_) fun g=>?_,?_,fun y hy=>((hS y).1 hy).elim (fun g=>?_) fun g=>?_⟩
     · dsimp only
       split
       · exact ⟨v,(hS v).2 (.inr rfl),d,rfl⟩
       · exact ⟨a,(hS a).2 (.inl k),m,o⟩
     · have:=f y g hn
       dsimp only;split<;>omega
     · subst g;dsimp only;split<;>omega
     · dsimp only
       split
       · exact ⟨v,(hS v).2 (.inr rfl),d,rfl⟩
       · exact ⟨c,(hS c).2 (.inl p),q,j⟩
     · have:=r y g
       dsimp only;split<;>omega
     · subst g;dsimp only;split<;>omega
end Go.Eng
/-
  inertia: scaled by value. No condition.
-/
namespace Go.Eng
open Go
theorem Gb8 {n:Nat} (d:n≠0):n/2^tzN n%2=1:=by
 induction n using Nat.strongRecOn with
 | ind n ih=>
   rw [Cx1,if_neg d]
   by_cases a:n%2=1
   · rw [if_pos a,Nat.pow_zero,Nat.div_one];exact a
   · rw [if_neg a,BC,Nat.mul_comm,← Nat.div_div_eq_div_mul]
     exact ih (n/2) (by omega) (by omega)
section
variable {n:Nat} {l:List Dy} {x:Dy} {low:Int} {B:Nat}
def aI (n:Nat) (l:List Dy) (x:Dy) (low:Int) (i j:Nat):Int:=vI low (l.getD (i*n+j) (false,[],0))-if i=j then vI low x else 0
def aD (n:Nat) (l:List Dy) (x:Dy) (i j:Nat):Int:=nDD (l.getD (i*n+j) (false,[],0))-if i=j then nDD x else 0
structure LowOk (l:List Dy) (x:Dy) (low:Int):Prop where
 gd:∀ d∈l,GdD d
 gx:GdD x
 lo : -65536≤low
 hi:low≤65536
 le:∀ d∈l,d.2.1 ≠ []→low≤d.2.2
 lx:x.2.1 ≠ []→low≤x.2.2
theorem Gd6 (hl:∀ d∈l,GdD d) (hx:GdD x):LowOk l x (Cd1 (l ++ [x]) 65536):=by
 have hm:∀ d∈l ++ [x],GdD d:=fun d hd=>(List.mem_append.1 hd).elim (hl d) fun h=>by rw [List.mem_singleton.1 h];exact hx
 refine ⟨hl,hx,Fi2 _ _ _ (by decide) fun d hd=>?_,Eg0 _ _,fun d hd a=>Dj2 _ _ d (List.mem_append_left _ hd) a,fun a=>Dj2 _ _ x (List.mem_append_right _ (AN ..)) a⟩
 exact (hm d hd).ld.2.2.1
theorem Gl9 (h:LowOk l x low) (hl:l.length=n*n) {i j:Nat} (hi:i<n) (hj:j<n):l.getD (i*n+j) (false,[],0)∈l:=by
 have:i*n+j<l.length:=by rw [hl];exact Gn6 hi hj
 rw [AB,AC this]
 exact AF _
theorem Gs1 (h:LowOk l x low) (hl:l.length=n*n) {i j:Nat} (hi:i<n) (hj:j<n):aI n l x low i j*((2^(low+65536).toNat:Nat):Int)=aD n l x i j:=by
 unfold aI aD
 rw [Int.sub_mul,Gj5 (h.le _ (Gl9 h hl hi hj)) h.lo]
 split
 · rw [Gj5 h.lx h.lo]
 · simp
theorem Fr3 (h:LowOk l x low) (hl:l.length=n*n) (hB:B=147457) {i j:Nat} (hi:i<n) (hj:j<n):(aI n l x low i j).natAbs<2^B:=by
 obtain ⟨b,rfl⟩:∃ b,B=b+1:=⟨147456,hB⟩
 unfold aI
 refine Fy5 (b:=b) (Fh7 (h.gd _ (Gl9 h hl hi hj)) h.lo (by omega)) ?_
 split
 · exact Fh7 h.gx h.lo (by omega)
 · exact AE _
theorem Hd6 {d:Dy} (hg:GdD d) (a:d.2.1 ≠ []→low≤d.2.2) (e : -65536≤low) (f:low≤65536):Ah4 d.1 d.2.1 d.2.2 low=some (vI low d):=by
 have:=hg.ld
 rw [Fq8 this.1 this.2.1 a (by omega) (by omega)]
 rfl
theorem Gf4 (h:LowOk l x low) (hl:l.length=n*n) (hB:B=147457) {i j:Nat} (hi:i<n) (hj:j<n):Ez7 n l x low i j=some (aI n l x low i j):=by
 have hm:=Gl9 h hl hi hj
 obtain ⟨b,hb⟩:∃ b:Nat,b=147456:=⟨_,rfl⟩
 unfold Ez7 aI
 rw [Hd6 (h.gd _ hm) (h.le _ hm) h.lo h.hi,AA]
 by_cases e:i=j
 · subst e
   rw [Ab0 (by simp),if_pos rfl,Hd6 h.gx h.lx h.lo h.hi,AA,Ep2 (b:=b) (Fh7 (h.gd _ hm) h.lo (by omega)) (Fh7 h.gx h.lo (by omega)) (by omega)]
 · rw [Ab1 (by simp;omega),if_neg e,Int.sub_zero]
def Gj7 (n:Nat) (l:List Dy) (x:Dy) (low:Int) (i j:Nat) (v:Int):Prop:=∃ p q,(p<i∨(p=i∧q<j))∧q<n∧v=aI n l x low p q
theorem Gk6 (h:LowOk l x low) (hl:l.length=n*n) (hB:B=147457) {i:Nat} (hi:i<n) {s:Int×Int} (hs:Sn (Gj7 n l x low i 0) s) :
 ∃ s',Et3 n l x low i s=some ((List.range n).map (aI n l x low i),s')∧Sn (Gj7 n l x low (i+1) 0) s':=by
 obtain ⟨b,u,k,m⟩:=Ap2 (f:=fun j (r:List Int×(Int×Int))=>(Ez7 n l x low i j).bind fun v=>(Cs7 r.2 v).bind fun s'=>some (r.1 ++ [v],s')) (n:=n) (a:=([],s))
  (fun j (r:List Int×(Int×Int))=>r.1=(List.range j).map (aI n l x low i)∧Sn (Gj7 n l x low i j) r.2) ⟨rfl,hs⟩ (by
   rintro j ⟨z,r2⟩ hj ⟨o,t⟩
   dsimp only at o t
   have hb:=Fr3 (B:=B) h hl hB hi hj
   refine ⟨(z ++ [aI n l x low i j],stp r2 (aI n l x low i j)),?_,?_,?_⟩
   · rw [Gf4 h hl hB hi hj,AA,Fs6 hb (by omega),AA]
   · dsimp only;rw [o,Ay4]
   · refine t.step hb (by omega) fun y=>?_
     constructor
     · rintro ⟨p,q,g,d,rfl⟩
       by_cases e:p=i∧q=j
       · exact .inr (by rw [e.1,e.2])
       · exact .inl ⟨p,q,by omega,d,rfl⟩
     · rintro (⟨p,q,g,d,rfl⟩ | rfl)
       · exact ⟨p,q,by omega,d,rfl⟩
       · exact ⟨i,j,by omega,hj,rfl⟩)
 obtain ⟨b1,b2⟩:=b
 dsimp only at k m
 subst k
 refine ⟨b2,u,?_⟩
 have e:Gj7 n l x low (i+1) 0=Gj7 n l x low i n:=by
  funext v
  refine propext ⟨?_,?_⟩
  · rintro ⟨p,q,g,d,rfl⟩;exact ⟨p,q,by omega,d,rfl⟩
  · rintro ⟨p,q,g,d,rfl⟩;exact ⟨p,q,by omega,d,rfl⟩
 rw [e];exact m
def mxV (n:Nat) (f:Nat→Nat→Int):Mt:=(List.range n).map fun i=>(List.range n).map (f i)
theorem Fn3 (n:Nat) (f:Nat→Nat→Int):Sq n (mxV n f):=by
 refine ⟨by unfold mxV;simp,fun r hr=>?_⟩
 obtain ⟨i,_,rfl⟩:=List.mem_map.1 hr
 simp
theorem Do0 {f:Nat→Nat→Int} {i j:Nat} (hi:i<n) (hj:j<n):ent (mxV n f) i j=f i j:=by
 unfold ent mxV
 rw [AB (l:=List.map _ _),AH,AI hi]
 simp [hj]
theorem Sq.ext {V W:Mt} (hV:Sq n V) (hW:Sq n W) (h:∀ i j,i<n→j<n→ent V i j=ent W i j):V=W:=by
 refine BG (by rw [hV.1,hW.1]) fun i a d=>?_
 have e:=hV.2 _ (AF a)
 have g:=hW.2 _ (AF d)
 refine BG (by rw [e,g]) fun j f k=>?_
 have:=h i j (by rw [← hV.1];exact a) (by rw [← e];exact f)
 unfold ent at this
 rw [AB (l:=V),AB (l:=W),AC a,AC d,AD,AD,AB,AB,AC f,AC k] at this
 exact this
theorem Gj4 (h:LowOk l x low) (hl:l.length=n*n) (hB:B=147457):∃ s',Gg1 n l x low=some (mxV n (aI n l x low),s')∧Sn (fun v=>∃ p q,p<n∧q<n∧v=aI n l x low p q) s':=by
 obtain ⟨b,t,d,j⟩:=Ap2 (f:=fun i (r:Mt×(Int×Int))=>(Et3 n l x low i r.2).bind fun o=>some (r.1.set i o.1,o.2)) (n:=n) (a:=(List.replicate n [],(1073741824,0)))
  (fun i (r:Mt×(Int×Int))=>r.1=Bs7 n [] (fun i=>(List.range n).map (aI n l x low i)) i∧Sn (Gj7 n l x low i 0) r.2) ⟨Ct4.symm,.inl ⟨fun v hv=>by obtain ⟨p,q,k,_⟩:=hv;omega,rfl⟩⟩ (by
   rintro i ⟨u,r2⟩ hi ⟨m,s⟩
   dsimp only at m s
   obtain ⟨s',y,z⟩:=Gk6 h hl hB hi s
   refine ⟨(u.set i ((List.range n).map (aI n l x low i)),s'),?_,?_,z⟩
   · dsimp only;rw [y,AA]
   · dsimp only;rw [m,Dg9 (G:=fun i=>(List.range n).map (aI n l x low i)) hi])
 obtain ⟨b1,b2⟩:=b
 dsimp only at d j
 rw [Co6] at d
 subst d
 refine ⟨b2,t,?_⟩
 have e:(fun v=>∃ p q,p<n∧q<n∧v=aI n l x low p q)=Gj7 n l x low n 0:=by
  funext v
  refine propext ⟨?_,?_⟩
  · rintro ⟨p,q,k,g,rfl⟩;exact ⟨p,q,by omega,g,rfl⟩
  · rintro ⟨p,q,k,g,rfl⟩;exact ⟨p,q,by omega,g,rfl⟩
 rw [e];exact j
theorem Fw4 {f g:Nat→Nat→Int} {t b:Nat} (ht:t≤1000000) (hb:b≤1000000) (hf:∀ i j,i<n→j<n→(f i j).natAbs<2^b) (hfg:∀ i j,i<n→j<n→f i j=g i j*((2^t:Nat):Int)):∃ V,Ey6 n (t:Int) (mxV n f)=some V∧Sq n V∧∀ i j,i<n→j<n→ent V i j=g i j:=by
 have hp:=AE t
 obtain ⟨V,k,m,o⟩:=Ap2 (f:=fun i V=>Al1 (fun j V=>(Bi9 (ent V i j) (u64.wrap (t:Int))).bind fun y=>some (Cd5 V i j y)) n V) (n:=n) (a:=mxV n f)
  (fun i V=>Sq n V∧∀ p q,p<n→q<n→ent V p q=if p<i then g p q else f p q) ⟨Fn3 n f,fun p q hp hq=>by rw [if_neg (by omega),Do0 hp hq]⟩ (by
   rintro i V1 hi ⟨r,s⟩
   obtain ⟨V2,u,v,z⟩:=Ap2 (f:=fun j V=>(Bi9 (ent V i j) (u64.wrap (t:Int))).bind fun y=>some (Cd5 V i j y)) (n:=n) (a:=V1)
    (fun j V=>Sq n V∧∀ p q,p<n→q<n→ent V p q=if p<i∨(p=i∧q<j) then g p q else f p q) ⟨r,fun p q hp hq=>by
     rw [s p q hp hq]
     by_cases c:p<i
     · rw [if_pos c,if_pos (.inl c)]
     · rw [if_neg c,if_neg (by omega)]⟩ (by
     rintro j V3 hj ⟨d,h⟩
     refine ⟨Cd5 V3 i j (g i j),?_,At3 d hi,fun p q hp hq=>?_⟩
     · rw [h i j hi hj,if_neg (by omega),Ap1 (by omega)]
       unfold Bi9
       rw [if_pos ⟨by omega,by omega⟩,Ay1 (hf i j hi hj) (by omega),AA,AA,AG]
       have e2:(2:Int)^t=((2^t:Nat):Int):=by simp
       rw [e2,Int.fdiv_eq_ediv_of_nonneg _ (by omega),hfg i j hi hj,AY _ (by omega)]
     · rw [Br1 d hi hj]
       by_cases e:p=i∧q=j
       · rw [if_pos e,if_pos (by omega),e.1,e.2]
       · rw [if_neg e,h p q hp hq]
         by_cases c:p<i∨(p=i∧q<j)
         · rw [if_pos c,if_pos (by omega)]
         · rw [if_neg c,if_neg (by omega)])
   refine ⟨V2,u,v,fun p q hp hq=>?_⟩
   rw [z p q hp hq]
   by_cases c:p<i+1
   · rw [if_pos (by omega),if_pos c]
   · rw [if_neg (by omega),if_neg c])
 exact ⟨V,k,m,fun i j hi hj=>by rw [o i j hi hj,if_pos hi]⟩
def Ev0 (n:Nat) (A:Nat→Nat→Int) (V:Mt) (low:Int) (ok:Bool):Prop:=
 Sq n V∧(((∀ i j,i<n→j<n→A i j=0∧ent V i j=0)∧ok=true ∧ -65536≤low∧low≤65536) ∨
  ∃ t M:Nat,low+65536=(t:Int)∧t≤300000∧M≤200000∧(∀ i j,i<n→j<n→A i j=ent V i j*((2^t:Nat):Int))∧(∃ i j,i<n∧j<n∧ent V i j%2=1)∧(∀ i j,i<n→j<n→blN (ent V i j).natAbs≤M)∧(∃ i j,i<n∧j<n∧blN (ent V i j).natAbs=M)∧ok=decide (M*n≤8192))
theorem Ef8 {n t:Nat} (a:n≠0):blN (n*2^t)=blN n+t:=As4 n t a
theorem Eo3 (hn:n≤48) (hl:l.length=n*n) (hg:∀ d∈l,GdD d) (hx:GdD x):∃ V low ok,Bl3 n l x=some (V,low,ok)∧Ev0 n (aD n l x) V low ok:=by
 have h:=Gd6 hg hx
 unfold Bl3
 generalize Cd1 (l ++ [x]) 65536=lw at *
 obtain ⟨B,hB⟩:∃ B:Nat,B=147457:=⟨_,rfl⟩
 obtain ⟨⟨least,most⟩,h1,h2⟩:=Gj4 (B:=B) h hl hB
 rw [h1,AA]
 dsimp only
 have hlo:=h.lo
 have hhi:=h.hi
 rcases h2 with ⟨z1,z2⟩ | ⟨⟨a,⟨p,q,hp,hq,rfl⟩,a2,v⟩,z,⟨c,⟨p',q',hp',hq',rfl⟩,d2,d3⟩,r⟩
 · cases z2
   rw [Ab0 (by decide)]
   refine ⟨_,_,_,rfl,Fn3 _ _,.inl ⟨fun i j hi hj=>?_,rfl,hlo,hhi⟩⟩
   have e:=z1 _ ⟨i,j,hi,hj,rfl⟩
   rw [Do0 hi hj,← Gs1 h hl hi hj,e]
   exact ⟨by simp,rfl⟩
 · dsimp only at v z d3 r
   have bp:=Fr3 h hl hB hp hq
   have bp':=Fr3 h hl hB hp' hq'
   have hne:(aI n l x lw p q).natAbs≠0:=by omega
   have hne':(aI n l x lw p' q').natAbs≠0:=by omega
   have ht:=El6 bp hne
   have hM:=Ap3.2 bp'
   have hM0:=Dm2 hne'
   generalize hT:tzN (aI n l x lw p q).natAbs=T at *
   generalize hMM:blN (aI n l x lw p' q').natAbs=M at *
   subst v d3
   rw [Ab1 (by simp;omega)]
   have hdv:∀ i j,i<n→j<n→∃ g:Int,aI n l x lw i j=g*((2^T:Nat):Int):=fun i j hi hj=>by
    by_cases k:aI n l x lw i j=0
    · exact ⟨0,by rw [k];simp⟩
    · have hle:=z _ ⟨i,j,hi,hj,rfl⟩ k
      obtain ⟨c,hc⟩:=Ff2 (aI n l x lw i j).natAbs
      have hpow:(2:Nat)^tzN (aI n l x lw i j).natAbs=2^(tzN (aI n l x lw i j).natAbs-T)*2^T:=by rw [← AS];congr 1;omega
      have hdvd:((2^T:Nat):Int) ∣ aI n l x lw i j:=by
       rw [← Int.dvd_natAbs]
       refine Int.natCast_dvd_natCast.2 ⟨2^(tzN (aI n l x lw i j).natAbs-T)*c,?_⟩
       conv=>lhs;rw [hc]
       rw [hpow,Nat.mul_comm _ (2^T),Nat.mul_assoc]
      obtain ⟨g,hg⟩:=hdvd
      exact ⟨g,by rw [hg,Int.mul_comm]⟩
   let g:Nat→Nat→Int:=fun i j=>aI n l x lw i j/((2^T:Nat):Int)
   have hP:((2^T:Nat):Int)≠0:=by have:=AE T;omega
   have s:∀ i j,i<n→j<n→aI n l x lw i j=g i j*((2^T:Nat):Int):=fun i j hi hj=>by
    obtain ⟨y,hy⟩:=hdv i j hi hj
    show _=aI n l x lw i j/_*_
    rw [hy,AY _ hP]
   obtain ⟨V,s1,s2,m⟩:=Fw4 (n:=n) (t:=T) (b:=B) (f:=aI n l x lw) (g:=g) (by omega) (by omega) (fun i j hi hj=>Fr3 h hl hB hi hj) s
   rw [s1,AA]
   have habs:∀ i j,i<n→j<n→(aI n l x lw i j).natAbs=(g i j).natAbs*2^T:=fun i j hi hj=>by rw [s i j hi hj,Int.natAbs_mul,AK]
   have hTM:T<M:=by
    have e:=habs p q hp hq
    have u:=r _ ⟨p,q,hp,hq,rfl⟩
    have o:(g p q).natAbs≠0:=fun c=>hne (by rw [e,c,BD])
    rw [e,Ef8 o] at u
    have:=Dm2 o
    omega
   have aa:i64.wrap (lw+(T:Int))=lw+(T:Int):=wrI (by omega) (by omega)
   have ab:i64.wrap (i64.wrap ((M:Int)-(T:Int))*(n:Int))=(((M-T)*n:Nat):Int):=by
    rw [wrI (n:=(M:Int)-(T:Int)) (by omega) (by omega),show (M:Int)-(T:Int)=((M-T:Nat):Int) by omega]
    have:(M-T)*n≤147457*48:=AL (by omega) hn
    exact Fi3 (by omega)
   refine ⟨V,_,_,rfl,s2,.inr ⟨(lw+65536).toNat+T,M-T,?_,by omega,by omega,fun i j hi hj=>?_,⟨p,q,hp,hq,?_⟩,fun i j hi hj=>?_,⟨p',q',hp',hq',?_⟩,?_⟩⟩
   · rw [aa];omega
   · rw [m i j hi hj,← Gs1 h hl hi hj,s i j hi hj,AO,← AJ,← AS,Nat.add_comm T]
   · rw [m p q hp hq]
     have e:=habs p q hp hq
     have:=Gb8 hne
     rw [hT,e,Nat.mul_div_cancel _ (AE T)] at this
     omega
   · rw [m i j hi hj]
     by_cases k:(g i j).natAbs=0
     · rw [k];exact Nat.zero_le _
     · have u:=r _ ⟨i,j,hi,hj,rfl⟩
       rw [habs i j hi hj,Ef8 k] at u
       omega
   · rw [m p' q' hp' hq']
     have e:=habs p' q' hp' hq'
     have o:(g p' q').natAbs≠0:=fun c=>hne' (by rw [e,c,BD])
     have h5:=hMM
     rw [e,Ef8 o] at h5
     omega
   · rw [ab]
     refine decide_eq_decide.2 ?_
     omega
end
theorem Gr8 {a b:Int} {s t:Nat} (h:a*((2^s:Nat):Int)=b*((2^t:Nat):Int)) (ha:a%2=1):t≤s:=by
 rcases Nat.lt_or_ge s t with c | c
 · exfalso
   obtain ⟨k,rfl⟩:∃ k,t=s+1+k:=⟨t-s-1,by omega⟩
   rw [show s+1+k=k+1+s by omega,AS,AJ,← AO] at h
   have:=Ce7 h
   rw [BC,AJ,← AO] at this
   omega
 · exact c
theorem Ev0.one {n:Nat} {A A':Nat→Nat→Int} {V V':Mt} {low low':Int} {ok ok':Bool} (hA:∀ i j,i<n→j<n→A i j=A' i j) (h:Ev0 n A V low ok) (h':Ev0 n A' V' low' ok'):V=V'∧ok=ok':=by
 obtain ⟨q,h⟩:=h
 obtain ⟨q',h'⟩:=h'
 have nz:∀ {A:Nat→Nat→Int} {V:Mt} {t:Nat},(∀ i j,i<n→j<n→A i j=ent V i j*((2^t:Nat):Int))→(∃ i j,i<n∧j<n∧ent V i j%2=1)→∃ i j,i<n∧j<n∧A i j≠0:=fun {A V t} g ⟨i,j,hi,hj,ho⟩=>by
  refine ⟨i,j,hi,hj,?_⟩
  rw [g i j hi hj]
  refine Int.mul_ne_zero (by omega) ?_
  have:=AE t;omega
 rcases h with ⟨z,rfl,_⟩ | ⟨t,M,_,_,_,a,e,k,m,o⟩<;>rcases h' with ⟨z',rfl,_⟩ | ⟨t',M',_,_,_,d,f,p,r,s⟩
 · exact ⟨q.ext q' fun i j hi hj=>by rw [(z i j hi hj).2,(z' i j hi hj).2],rfl⟩
 · obtain ⟨i,j,hi,hj,hne⟩:=nz d f
   exact absurd ((hA i j hi hj).symm.trans (z i j hi hj).1) hne
 · obtain ⟨i,j,hi,hj,hne⟩:=nz a e
   exact absurd ((hA i j hi hj).trans (z' i j hi hj).1) hne
 · have ht:t=t':=by
    obtain ⟨i,j,hi,hj,ho⟩:=e
    obtain ⟨i',j',hi',hj',ho'⟩:=f
    have u:=Gr8 ((a i j hi hj).symm.trans ((hA i j hi hj).trans (d i j hi hj))) ho
    have v:=Gr8 ((d i' j' hi' hj').symm.trans ((hA i' j' hi' hj').symm.trans (a i' j' hi' hj'))) ho'
    omega
   subst ht
   have hV:V=V':=q.ext q' fun i j hi hj=>Ce7 ((a i j hi hj).symm.trans ((hA i j hi hj).trans (d i j hi hj)))
   subst hV
   have hM:M=M':=by
    obtain ⟨i,j,hi,hj,ho⟩:=m
    obtain ⟨i',j',hi',hj',ho'⟩:=r
    have u:=p i j hi hj
    have v:=k i' j' hi' hj'
    omega
   subst hM
   exact ⟨rfl,by rw [o,s]⟩
end Go.Eng
/-
  inertia: Right, Symmetric by value; what signs tells. No condition.
-/
namespace Go.Eng
open Go Go.Ine
theorem Ev1 {l:List Dy} {f:Dy→Option Bool} {p:Dy→Bool} (hf:∀ d∈l,f d=some (p d)) (hl:l.length≤4294967296):Ac2 l f=some (l.any p):=by
 have at_:∀ i,i<l.length→∃ d,atI l (i:Int)=some d∧f (d.1,d.2.1,d.2.2)=some (p d)∧l[i]?=some d:=fun i hi=>by
  refine ⟨l[i],Eq7 hi,hf _ (AF hi),AC hi⟩
 unfold Ac2 Ac9
 rw [AA]
 rcases Ar7 (fun i=>p (l.getD i (false,[],0))) l.length with h | ⟨i,hi,m,q⟩
 · have h:=fun i (hi:i<l.length)=>h i hi
   have:=Ac7 (b:=Aa6 ((l.length:Nat):Int) l f) (fun i=>((i:Nat):Int)) (o:=(.inl ():Unit⊕Int)) l.length (by rw [Af4];omega) (fun i hi=>by
    obtain ⟨d,e,g,j⟩:=at_ i hi
    have a:=h i hi
    rw [AB,j,AD] at a
    unfold Aa6
    dsimp only
    rw [Ab0 (by simp;omega),e,AA,g,AA,a,cF,wrU (by omega)]) (by
    unfold Aa6
    dsimp only
    rw [Ab1 (by simp)])
   have this:Af5 (Aa6 ((l.length:Nat):Int) l f) FU 0=some (.inl ()):=this
   rw [this,AA]
   have:l.any p=false:=by
    rw [BE]
    intro d hd
    obtain ⟨i,hi,rfl⟩:=List.mem_iff_getElem.1 hd
    have:=h i hi
    rw [AB,AC hi,AD] at this
    simp [this]
   rw [this];rfl
 · have:=Ac7 (b:=Aa6 ((l.length:Nat):Int) l f) (fun i=>((i:Nat):Int)) (o:=(.inr ((i:Nat):Int):Unit⊕Int)) i (by rw [Af4];omega) (fun k hk=>by
    obtain ⟨d,e,g,j⟩:=at_ k (by omega)
    have a:=q k hk
    rw [AB,j,AD] at a
    unfold Aa6
    dsimp only
    rw [Ab0 (by simp;omega),e,AA,g,AA,a,cF,wrU (by omega)]) (by
    obtain ⟨d,e,g,j⟩:=at_ i hi
    have a:=m
    rw [AB,j,AD] at a
    unfold Aa6
    dsimp only
    rw [Ab0 (by simp;omega),e,AA,g,AA,a,cT])
   have this:Af5 (Aa6 ((l.length:Nat):Int) l f) FU 0=some (.inr ((i:Nat):Int)):=this
   rw [this,AA]
   have:l.any p=true:=by
    rw [List.any_eq_true]
    refine ⟨l[i],AF hi,?_⟩
    rw [AB,AC hi,AD] at m
    exact m
   rw [this]
   simp
def LdL (l:List Dy):Prop:=∀ d∈l,Ld d.2.1∧d.2.1.length≤4294967296
theorem Fx3 (r:Int):Ao9 r=some (decide (0≤r∧r≤48)):=by
 unfold Ao9
 refine Ba5 (fun h=>?_) (fun h=>?_)<;>simp at h<;>simp<;>omega
theorem Er5 {r c:Int} {l:List Dy} (hl:LdL l) (hn:l.length≤4294967296):∃ b,Al8 r c l=some b∧(b=true↔∃ n m:Nat,r=n∧c=m∧n≤48∧m≤48∧l.length=n*m∧∀ d∈l,GdD d):=by
 unfold Al8
 rw [Fx3,AA]
 classical
 refine ⟨decide (∃ n m:Nat,r=n∧c=m∧n≤48∧m≤48∧l.length=n*m∧∀ d∈l,GdD d),?_,?_⟩
 · by_cases e:0≤r∧r≤48
   · rw [decide_eq_true e,cT,Fx3,AA]
     by_cases a:0≤c∧c≤48
     · rw [decide_eq_true a,cT,AA]
       obtain ⟨n,rfl⟩:∃ n:Nat,r=n:=⟨r.toNat,by omega⟩
       obtain ⟨m,rfl⟩:∃ m:Nat,c=m:=⟨c.toNat,by omega⟩
       have hb:n*m≤48*48:=AL (by omega) (by omega)
       rw [Fi3 (by omega)]
       refine Ba5 (fun h=>?_) (fun h=>?_)
       · have h:l.length=n*m:=by simp at h;exact_mod_cast h
         have hr:∀ d∈l,∃ b,Ag6 d.1 d.2.1 d.2.2=some b∧(b=true↔GdD d):=fun d hd=>Cm5 (hl d hd).1 (hl d hd).2
         rw [Ev1 (p:=fun d => !decide (GdD d)) (fun d hd=>by
          obtain ⟨b,e,a⟩:=hr d hd
          show Al3 d.1 d.2.1 d.2.2=_
          unfold Al3
          rw [e,AA]
          cases b with
          | true=>rw [decide_eq_true (a.1 rfl)]
          | false=>rw [decide_eq_false (fun g=>by cases a.2 g)]) hn,AA]
         congr 1
         rw [Bool.eq_iff_iff]
         simp only [Bool.not_eq_true',BE,Bool.not_eq_true,decide_eq_true_iff]
         constructor
         · intro g
           exact ⟨n,m,rfl,rfl,by omega,by omega,h,fun d hd=>by have:=g d hd;simpa using this⟩
         · rintro ⟨n',m',_,_,_,_,_,g⟩ d hd
           have:=g d hd
           simpa using this
       · congr 1
         symm
         rw [decide_eq_false_iff_not]
         rintro ⟨n',m',f,i,_,_,j,_⟩
         obtain rfl:n=n':=by omega
         obtain rfl:m=m':=by omega
         simp at h
         exact h (by exact_mod_cast j)
     · rw [decide_eq_false a,cF]
       congr 1
       symm
       rw [decide_eq_false_iff_not]
       rintro ⟨n',m',f,i,_,_,_,_⟩
       omega
   · rw [decide_eq_false e,cF]
     congr 1
     symm
     rw [decide_eq_false_iff_not]
     rintro ⟨n',m',f,i,_,_,_,_⟩
     omega
 · rw [decide_eq_true_iff]
structure SymD (n:Nat) (l:List Dy):Prop where
 le:n≤48
 len:l.length=n*n
 gd:∀ d∈l,GdD d
 sym:∀ i j,i<n→j<n→nDD (l.getD (i*n+j) (false,[],0))=nDD (l.getD (j*n+i) (false,[],0))
theorem Gj0 {n:Nat} {l:List Dy} (p:n≤48) {b7:Int→Int→Option (Int⊕(Unit⊕Bool))} {b5:Int→Option (Int⊕(Unit⊕Bool))}
 (hb:∀ i j:Nat,i<n→j<i→b7 (i:Int) (j:Int)=cond (Dd5 (nDD (l.getD (i*n+j) (false,[],0))) (nDD (l.getD (j*n+i) (false,[],0))) != 0) (some (.inr (.inr false))) (some (.inl (i64.wrap ((j:Int)+1)))))
 (he:∀ i:Nat,b7 (i:Int) (i:Int)=some (.inr (.inl ())))
 (d:∀ t:Int,b5 t=cond (decide (t<(n:Int))) ((Af5 (b7 t) FU 0).bind fun o=>match o with
  | .inl ()=>some (.inl (i64.wrap (t+1)))
  | .inr v=>some (.inr (.inr v))) (some (.inr (.inl ())))) :
 ∃ b,((Af5 b5 FU 0).bind fun o=>match o with
   | .inl ()=>some true
   | .inr v=>some v)=some b∧(b=true↔∀ i j,i<n→j<n→nDD (l.getD (i*n+j) (false,[],0))=nDD (l.getD (j*n+i) (false,[],0))):=by
 classical
 let ne:Nat→Nat→Bool:=fun i j=>decide (nDD (l.getD (i*n+j) (false,[],0))≠nDD (l.getD (j*n+i) (false,[],0)))
 have stepI:∀ i j,i<n→j<i→b7 (i:Int) ((j:Nat):Int)=if ne i j then some (.inr (.inr false)) else some (.inl ((j+1:Nat):Int)):=fun i j hi hj=>by
  rw [hb i j hi hj]
  by_cases e:nDD (l.getD (i*n+j) (false,[],0))=nDD (l.getD (j*n+i) (false,[],0))
  · rw [show ne i j=false from decide_eq_false (fun h=>h e),e,Ab1 (by unfold Dd5;simp),wrU (by omega)]
    rfl
  · rw [show ne i j=true from decide_eq_true e]
    have m:Dd5 (nDD (l.getD (i*n+j) (false,[],0))) (nDD (l.getD (j*n+i) (false,[],0)))≠0:=by
     unfold Dd5
     split
     · decide
     · first
       | decide
       | (rw [if_neg e];decide)
    rw [Ab0 (by simpa using m)]
    rfl
 have Bk4:∀ i,i<n→((∀ j,j<i→ne i j=false)∧Af5 (b7 (i:Int)) FU 0=some (.inl ()))∨((∃ j,j<i∧ne i j=true)∧Af5 (b7 (i:Int)) FU 0=some (.inr false)):=fun i hi=>by
  rcases Ar7 (ne i) i with h | ⟨j,hj,a,f⟩
  · exact .inl ⟨h,Ac7 (b:=b7 (i:Int)) (fun j=>((j:Nat):Int)) i (by rw [Af4];omega) (fun j hj=>by rw [stepI i j hi hj,h j hj];rfl) (he i)⟩
  · exact .inr ⟨⟨j,hj,a⟩,Ac7 (b:=b7 (i:Int)) (fun j=>((j:Nat):Int)) j (by rw [Af4];omega) (fun k hk=>by rw [stepI i k hi (by omega),f k hk];rfl) (by rw [stepI i j hi hj,a];rfl)⟩
 have out:((∀ i j,i<n→j<i→ne i j=false)∧Af5 b5 FU 0=some (.inl ()))∨((∃ i j,i<n∧j<i∧ne i j=true)∧Af5 b5 FU 0=some (.inr false)):=by
  rcases Ar7 (fun i=>decide (∃ j,j<i∧ne i j=true)) n with h | ⟨i,hi,a,f⟩
  · have h:∀ i,i<n→∀ j,j<i→ne i j=false:=fun i hi j hj=>by
     have:=h i hi
     rw [decide_eq_false_iff_not] at this
     cases e:ne i j with
     | false=>rfl
     | true=>exact absurd ⟨j,hj,e⟩ this
    refine .inl ⟨fun i j hi hj=>h i hi j hj,?_⟩
    exact Ac7 (b:=b5) (fun i=>((i:Nat):Int)) n (by rw [Af4];omega) (fun i hi=>by
     rw [d,Ab0 (by simp;omega)]
     rcases Bk4 i hi with ⟨_,g⟩ | ⟨⟨j,hj,g⟩,_⟩
     · rw [g,AA];dsimp only;rw [wrU (by omega)]
     · rw [h i hi j hj] at g;cases g) (by rw [d,Ab1 (by simp)])
  · obtain ⟨j,hj,a⟩:=of_decide_eq_true a
    refine .inr ⟨⟨i,j,hi,hj,a⟩,?_⟩
    exact Ac7 (b:=b5) (fun i=>((i:Nat):Int)) i (by rw [Af4];omega) (fun k hk=>by
     have h:=f k hk
     rw [decide_eq_false_iff_not] at h
     rw [d,Ab0 (by simp;omega)]
     rcases Bk4 k (by omega) with ⟨_,g⟩ | ⟨g,_⟩
     · rw [g,AA];dsimp only;rw [wrU (by omega)]
     · exact absurd g h) (by
     rw [d,Ab0 (by simp;omega)]
     rcases Bk4 i hi with ⟨g,_⟩ | ⟨_,g⟩
     · rw [g j hj] at a;cases a
     · rw [g,AA])
 rcases out with ⟨g,h⟩ | ⟨⟨i,j,hi,hj,g⟩,h⟩
 · rw [h,AA]
   refine ⟨_,rfl,⟨fun _ i j hi hj=>?_,fun _=>rfl⟩⟩
   rcases Nat.lt_trichotomy i j with c | c | c
   · exact (AW (of_decide_eq_false (g j i hj c))).symm
   · subst c;rfl
   · exact AW (of_decide_eq_false (g i j hi c))
 · rw [h,AA]
   exact ⟨_,rfl,⟨fun c=>(by cases c),fun hS=>absurd (hS i j hi (by omega)) (of_decide_eq_true g)⟩⟩
theorem Fh5 {r c:Int} {l:List Dy} {R:Option Bool} {b7:Int→List Dy→Int→Int→Option (Int⊕(Unit⊕Bool))} {b5:Int→List Dy→Int→Int→Option (Int⊕(Unit⊕Bool))}
 (hR:∃ b,R=some b∧(b=true↔∃ n m:Nat,r=n∧c=m∧n≤48∧m≤48∧l.length=n*m∧∀ d∈l,GdD d))
 (hb:∀ n i j:Nat,n≤48→l.length=n*n→(∀ d∈l,GdD d)→i<n→j<i→b7 (i:Int) l (n:Int) (j:Int)=cond (Dd5 (nDD (l.getD (i*n+j) (false,[],0))) (nDD (l.getD (j*n+i) (false,[],0))) != 0) (some (.inr (.inr false))) (some (.inl (i64.wrap ((j:Int)+1)))))
 (he:∀ n i:Nat,b7 (i:Int) l (n:Int) (i:Int)=some (.inr (.inl ())))
 (k:∀ (n:Nat) (t:Int),b5 n l n t=cond (decide (t<(n:Int))) ((Af5 (b7 t l n) FU 0).bind fun o=>match o with
  | .inl ()=>some (.inl (i64.wrap (t+1)))
  | .inr v=>some (.inr (.inr v))) (some (.inr (.inl ())))) :
 ∃ b,((R.bind fun p=>cond (!(!p)) (some (r != c)) (some true)).bind fun q=>cond q (some false) ((Af5 (b5 r l c) FU 0).bind fun o=>match o with
   | .inl ()=>some true
   | .inr v=>some v))=some b∧(b=true↔∃ n:Nat,r=n∧c=n∧SymD n l):=by
 obtain ⟨b,s,f⟩:=hR
 rw [s,AA]
 cases b with
 | false=>
   rw [Ab1 (by rfl),AA,cT]
   refine ⟨_,rfl,fun h=>(by cases h),?_⟩
   rintro ⟨n,a,g,hS⟩
   exact f.2 ⟨n,n,a,g,hS.le,hS.le,hS.len,hS.gd⟩
 | true=>
   obtain ⟨n,m,rfl,rfl,e,z,hll,hg⟩:=f.1 rfl
   rw [Ab0 (by rfl),AA]
   by_cases hnm:n=m
   rotate_left
   · rw [Ab0 (by simp;omega)]
     refine ⟨_,rfl,fun h=>(by cases h),?_⟩
     rintro ⟨n',a,g,_⟩;omega
   · subst hnm
     rw [Ab1 (by simp)]
     obtain ⟨b,u,y⟩:=Gj0 (l:=l) e (fun i j hi hj=>hb n i j e hll hg hi hj) (he n) (k n)
     refine ⟨b,u,y.trans ⟨fun h=>⟨n,rfl,rfl,e,hll,hg,h⟩,fun ⟨n',a,_,hS⟩=>?_⟩⟩
     obtain rfl:n=n':=by omega
     exact hS.sym
theorem Fs8 {n:Nat} {l:List Dy} (hll:l.length=n*n) (hg:∀ d∈l,GdD d) {i j:Nat} (hi:i<n) (hj:j<n):i*n+j<l.length∧GdD (l.getD (i*n+j) (false,[],0)):=by
 have h:i*n+j<l.length:=by rw [hll];exact Gn6 hi hj
 refine ⟨h,?_⟩
 rw [AB,AC h]
 exact hg _ (AF _)
theorem Gb4 {r c:Int} {l:List Dy} (hl:LdL l) (hn:l.length≤4294967296):∃ b,Ac4 r c l=some b∧(b=true↔∃ n:Nat,r=n∧c=n∧SymD n l):=by
 refine Fh5 (b7:=Ah0) (b5:=Ap0) (Er5 hl hn) (fun n i j a hll hg hi hj=>?_) (fun n i=>?_) (fun n t=>rfl)
 · have hnn:n*n≤48*48:=AL a a
   unfold Ah0
   dsimp only
   have d:=Fs8 hll hg hi (show j<n by omega)
   have e:=Fs8 hll hg (show j<n by omega) hi
   rw [Ab0 (by simp;omega),Fa7 hi (show j<n by omega) (by omega),Fa7 (show j<n by omega) hi (by omega),Ac1 (false,[],0) d.1,AA,Ac1 (false,[],0) e.1,AA,Gn8 d.2 e.2,AA]
 · unfold Ah0
   dsimp only
   rw [Ab1 (by simp)]
theorem Dj3 {n:Nat} {V:Mt} (h:Sq n V) {i j:Nat} (hij : ¬ (i<n∧j<n)):ent V i j=0:=by
 unfold ent
 by_cases hi:i<n
 · have hl:i<V.length:=by rw [h.1];exact hi
   have:=h.2 _ (AF hl)
   rw [AB (l:=V),AC hl,AD,AB,AR (by omega)]
   rfl
 · rw [AB (l:=V),AR (by rw [h.1];omega)]
   rfl
theorem Gu2 {n:Nat} {A:Nat→Nat→Int} {V:Mt} {low:Int} {ok:Bool} (hn:n≤8) (hA:∀ i j,i<n→j<n→A i j=A j i) (h:Ev0 n A V low ok) :
 ∃ B T Ab:Nat,Bm7 n V=some ((B:Int),(T:Int),(Ab:Int))∧B+T+Ab=n∧Sig n (fun i j=>(A i j:Rat)) B Ab:=by
 obtain ⟨q,h⟩:=h
 have key:∃ t b:Nat,(∀ i j,i<n→j<n→A i j=ent V i j*((2^t:Nat):Int))∧1≤b∧b≤200001∧Bd n V b:=by
  rcases h with ⟨z,_⟩ | ⟨t,M,_,_,hM,a,_,e,_,_⟩
  · exact ⟨0,1,fun i j hi hj=>by rw [(z i j hi hj).1,(z i j hi hj).2];simp,by omega,by omega,fun i j hi hj=>by rw [(z i j hi hj).2];decide⟩
  · exact ⟨t,M+1,a,by omega,by omega,fun i j hi hj=>Al5 (Ap3.1 (e i j hi hj)) (by omega)⟩
 obtain ⟨t,b,a,f,m,hb⟩:=key
 have hs:∀ i j,ent V i j=ent V j i:=fun i j=>by
  by_cases c:i<n∧j<n
  · exact Ce7 ((a i j c.1 c.2).symm.trans ((hA i j c.1 c.2).trans (a j i c.2 c.1)))
  · rw [Dj3 q c,Dj3 q (fun d=>c ⟨d.2,d.1⟩)]
 have hp:2^n≤2^8:=AV (by decide) hn
 have hpw:(b+6)*2^n≤200007*2^8:=AL (by omega) hp
 obtain ⟨res,hr⟩:=Ef6 q hs hb f (Nat.le_trans hpw (by decide))
 obtain ⟨B,T,Ab,rfl,g,k⟩:=Ev6 q hs hr
 refine ⟨B,T,Ab,hr,g,?_⟩
 have hc:(0:Rat)<(((2^t:Nat):Int):Rat):=by
  have:=AE t
  have:(0:Int)<((2^t:Nat):Int):=by omega
  exact Rat.intCast_pos.2 this
 refine (k.scale hc).ext fun i j hi hj=>?_
 rw [a i j hi hj,AQ,Rat.mul_comm]
end Go.Eng
/-
  inertia: Below and Signs by value; great, copies. No condition.
-/
namespace Go.Eng
open Go Go.Ine
theorem Fi8 {τ ω:Type} {b:τ→Option (τ⊕ω)} (Q:Nat→τ→Prop) (O:ω→Prop) (n:Nat) (hn:n<FU) (step:∀ k s,k≤n→Q k s→(∃ o,b s=some (.inr o)∧O o)∨(k<n∧∃ s',b s=some (.inl s')∧Q (k+1) s')) {s0:τ} (e:Q 0 s0):∃ o,Af5 b FU s0=some o∧O o:=by
 have key:∀ k i m s,i+k=n→k<m→Q i s→∃ o,Af5 b m s=some o∧O o:=by
  intro k
  induction k with
  | zero=>
    intro i m s hi hm hI
    obtain ⟨m,rfl⟩:∃ q,m=q+1:=⟨m-1,by omega⟩
    rcases step i s (by omega) hI with ⟨o,a,d⟩ | ⟨h,_⟩
    · exact ⟨o,by rw [Av3,a],d⟩
    · omega
  | succ k ih=>
    intro i m s hi hm hI
    obtain ⟨m,rfl⟩:∃ q,m=q+1:=⟨m-1,by omega⟩
    rcases step i s (by omega) hI with ⟨o,a,d⟩ | ⟨_,s',a,d⟩
    · exact ⟨o,by rw [Av3,a],d⟩
    · obtain ⟨o,f,g⟩:=ih (i+1) m s' (by omega) (by omega) d
      exact ⟨o,by rw [Av3,a];exact f,g⟩
 exact key n 0 FU s0 (by omega) hn e
theorem Fg5:Bv9=some true:=by decide +kernel
theorem Dj7 {r c:Int} {l:List Dy} (hn:l.length≤4294967296):∃ b,Bd6 r c l=some b∧(b=false→r≤8∧c≤8):=by
 obtain ⟨o,h,_⟩:=Fi8 (b:=Ay5 l) (fun k s=>s.2=(k:Int)) (fun _=>True) l.length (by rw [Af4];omega) (s0:=(0,0)) (fun k s hk hs=>by
  obtain ⟨a,b⟩:=s
  dsimp only at hs
  subst hs
  unfold Ay5
  dsimp only
  rw [AA]
  by_cases d:k<l.length
  · rw [Ab0 (by simp;omega)]
    by_cases ha:a≤400
    · rw [decide_eq_true ha,cT,Eq7 d,AA,AA,wrU (by omega)]
      exact .inr ⟨d,_,rfl,rfl⟩
    · rw [decide_eq_false ha,cF]
      exact .inl ⟨_,rfl,trivial⟩
  · rw [Ab1 (by simp;omega)]
    exact .inl ⟨_,rfl,trivial⟩) rfl
 unfold Bd6
 rw [h,AA]
 by_cases e:r>8
 · rw [decide_eq_true e]
   exact ⟨_,rfl,fun h=>by cases h⟩
 · rw [decide_eq_false e,Bool.not_false,cT]
   by_cases f:c>8
   · rw [decide_eq_true f]
     exact ⟨_,rfl,fun h=>by cases h⟩
   · rw [decide_eq_false f,Bool.not_false,cT]
     exact ⟨_,rfl,fun _=>⟨by omega,by omega⟩⟩
theorem SymD.ldL {n:Nat} {l:List Dy} (h:SymD n l):LdL l:=fun d hd=>⟨(h.gd d hd).ld.1,by have:=(h.gd d hd).ld.2.1;omega⟩
theorem SymD.small {n:Nat} {l:List Dy} (h:SymD n l):l.length≤2304:=by
 rw [h.len]
 exact AL h.le h.le
theorem SymD.sq {n:Nat} {l:List Dy} (h:SymD n l):sqG (n:Int) (n:Int) l=true:=by
 have:=h.le
 refine decide_eq_true ⟨by omega,by omega,rfl,?_⟩
 rw [h.len];exact AJ n n
theorem SymD.t {n:Nat} {l:List Dy} (h:SymD n l):Ac4 (n:Int) (n:Int) l=some true:=by
 obtain ⟨b,a,d⟩:=Gb4 (r:=(n:Int)) (c:=(n:Int)) h.ldL (by have:=h.small;omega)
 rw [a,d.2 ⟨n,rfl,rfl,h⟩]
theorem SymD.aD {n:Nat} {l:List Dy} (h:SymD n l) (x:Dy):∀ i j,i<n→j<n→aD n l x i j=aD n l x j i:=fun i j hi hj=>by
 unfold Go.Eng.aD
 rw [h.sym i j hi hj]
 by_cases e:i=j
 · subst e;rfl
 · rw [if_neg e,if_neg (fun c=>e c.symm)]
theorem Ge1 {n:Nat} {l:List Dy} {x:Dy} (hS:SymD n l) (hx:GdD x) (hn:n≤8) :
 ∃ V low ok,Bl3 n l x=some (V,low,ok)∧Ev0 n (aD n l x) V low ok∧((ok=false∧Af0 (n:Int) (n:Int) l x.1 x.2.1 x.2.2=some (0,3)) ∨
   (ok=true∧∃ B T Ab:Nat,Bm7 n V=some ((B:Int),(T:Int),(Ab:Int))∧B+T+Ab=n∧Sig n (fun i j=>(aD n l x i j:Rat)) B Ab∧Af0 (n:Int) (n:Int) l x.1 x.2.1 x.2.2=some ((B:Int),0))):=by
 obtain ⟨V,low,ok,a,d⟩:=Eo3 hS.le hS.len hS.gd hx
 refine ⟨V,low,ok,a,d,?_⟩
 obtain ⟨B,T,Ab,e,f,g⟩:=Gu2 hn (hS.aD x) d
 unfold Af0 Cv6
 rw [hS.t,AA,Dm7 hx,AA,hS.sq,AG,a,AA]
 cases ok with
 | false=>exact .inl ⟨rfl,rfl⟩
 | true=>
  refine .inr ⟨rfl,B,T,Ab,e,f,g,?_⟩
  show (Bm7 n V).bind _=_
  rw [e];rfl
theorem Fa6 {n:Nat} {l:List Dy} (hS:SymD n l) (hn:n≤8) :
 ∃ V low ok,Bl3 n l (false,[],0)=some (V,low,ok)∧Ev0 n (aD n l (false,[],0)) V low ok∧((ok=false∧Ag1 (n:Int) (n:Int) l=some (0,0,0,3)) ∨
   (ok=true∧∃ B T Ab:Nat,Bm7 n V=some ((B:Int),(T:Int),(Ab:Int))∧B+T+Ab=n∧Sig n (fun i j=>(aD n l (false,[],0) i j:Rat)) B Ab∧Ag1 (n:Int) (n:Int) l=some ((B:Int),(T:Int),(Ab:Int),0))):=by
 obtain ⟨V,low,ok,a,d⟩:=Eo3 (x:=(false,[],0)) hS.le hS.len hS.gd (.inl ⟨rfl,rfl,rfl⟩)
 refine ⟨V,low,ok,a,d,?_⟩
 obtain ⟨B,T,Ab,e,f,g⟩:=Gu2 hn (hS.aD _) d
 unfold Ag1 Dj6
 rw [hS.t,AA,hS.sq,AG,a,AA]
 cases ok with
 | false=>exact .inl ⟨rfl,rfl⟩
 | true=>
  refine .inr ⟨rfl,B,T,Ab,e,f,g,?_⟩
  show (Bm7 n V).bind _=_
  rw [e];rfl
theorem Fk5:nDD (false,[],0)=0:=by
 unfold nDD nD
 have:zD false []=0:=rfl
 rw [this,Int.zero_mul]
end Go.Eng
/-
  inertia: the coefficients by value. No condition.
-/
namespace Go.Eng
open Go Go.Ine
section
variable {n b M:Nat} {V A:Mt} {c:Int}
theorem Fl9 (hq:Sq n A) (hA:Bd n A M) (hc:c.natAbs<2^M) (hM:M≤34359738368):∃ A1,Eh1 n c A=some A1∧Sq n A1∧∀ i j,i<n→j<n→ent A1 i j=ent A i j+if i=j then c else 0:=by
 obtain ⟨A1,m,o,p⟩:=Ap2 (f:=fun i A=>(Au1 (ent A i i) c).bind fun y=>some (Cd5 A i i y)) (n:=n) (a:=A)
  (fun k B=>Sq n B∧∀ i j,i<n→j<n→ent B i j=ent A i j+if i=j∧i<k then c else 0) ⟨hq,fun i j _ _=>by rw [if_neg (by omega)];omega⟩ (by
   rintro k B hk ⟨d,g⟩
   refine ⟨Cd5 B k k (ent A k k+c),?_,At3 d hk,fun i j hi hj=>?_⟩
   · rw [g k k hk hk,if_neg (by omega),Int.add_zero,Ca0 (hA k k hk hk) hc hM];rfl
   · rw [Br1 d hk hk]
     by_cases e:i=k∧j=k
     · rw [if_pos e,if_pos (by omega),e.1,e.2]
     · rw [if_neg e,g i j hi hj]
       by_cases h:i=j∧i<k
       · rw [if_pos h,if_pos (by omega)]
       · rw [if_neg h,if_neg (by omega)])
 refine ⟨A1,m,o,fun i j hi hj=>?_⟩
 rw [p i j hi hj]
 by_cases e:i=j
 · rw [if_pos ⟨e,hi⟩,if_pos e]
 · rw [if_neg (by omega),if_neg e]
def dI (n:Nat) (V A:Mt) (i j:Nat):Int:=sI n fun h=>ent V i h*ent A h j
theorem Cu5 (hV:Bd n V b) (hA:Bd n A M) {i j:Nat} (hi:i<n) (hj:j<n) (hM:b+M+n≤34359738368):Cw8 n V A i j=some (dI n V A i j)∧(dI n V A i j).natAbs<2^(b+M+n):=by
 obtain ⟨v,g,m,o⟩:=Ap2 (f:=fun h x=>(Bt7 (ent V i h) (ent A h j)).bind fun y=>Au1 x y) (n:=n) (a:=(0:Int))
  (fun k x=>x=sI k (fun h=>ent V i h*ent A h j)∧x.natAbs<2^(b+M+k)) ⟨rfl,AE _⟩ (by
   rintro k x hk ⟨p,d⟩
   have q:=Dr0 (hV i k hi hk) (hA k j hk hj)
   have e:=Al5 q (show b+M≤b+M+k by omega)
   refine ⟨x+ent V i k*ent A k j,?_,by rw [p];rfl,Du0 d e⟩
   rw [Do2 (b:=b+M) (Al5 (hV i k hi hk) (by omega)) (Al5 (hA k j hk hj) (by omega)) (by omega),AA,Ca0 d e (by omega)])
 subst m
 exact ⟨g,o⟩
theorem Fl1 (hV:Bd n V b) (hA:Bd n A M) {i:Nat} (hi:i<n) (hM:b+M+n≤34359738368):Cd2 n V A i=some ((List.range n).map (dI n V A i)):=by
 obtain ⟨l,d,e⟩:=Ap2 (f:=fun j l=>(Cw8 n V A i j).bind fun x=>some (l ++ [x])) (n:=n) (a:=([]:List Int)) (fun k l=>l=(List.range k).map (dI n V A i)) rfl (by
  rintro k l hk rfl
  exact ⟨_,by rw [(Cu5 hV hA hi hk hM).1];rfl,Ay4⟩)
 subst e
 exact d
theorem Eu9 (hV:Bd n V b) (hA:Bd n A M) (hM:b+M+n+n≤34359738368):Dm1 n V A=some (mxV n (dI n V A),sI n fun i=>dI n V A i i)∧(sI n fun i=>dI n V A i i).natAbs<2^(b+M+n+n):=by
 obtain ⟨s,u,d,g,h⟩:=Ap2 (f:=fun i (s:Mt×Int)=>(Cd2 n V A i).bind fun r=>(Au1 s.2 (r.getD i 0)).bind fun t=>some (s.1.set i r,t)) (n:=n) (a:=(List.replicate n [],0))
  (fun k (s:Mt×Int)=>s.1=Bs7 n [] (fun i=>(List.range n).map (dI n V A i)) k∧s.2=sI k (fun i=>dI n V A i i)∧s.2.natAbs<2^(b+M+n+k)) ⟨Ct4.symm,rfl,AE _⟩ (by
   rintro k ⟨j,m⟩ hk ⟨o,p,e⟩
   dsimp only at o p e
   have hd:=(Cu5 hV hA hk hk (by omega)).2
   have hg:((List.range n).map (dI n V A k)).getD k 0=dI n V A k k:=by
    rw [AB,AH,AI hk];rfl
   have q:=Al5 hd (show b+M+n≤b+M+n+k by omega)
   refine ⟨(j.set k ((List.range n).map (dI n V A k)),m+dI n V A k k),?_,?_,?_,Du0 e q⟩
   · rw [Fl1 hV hA hk (by omega),AA,hg,Ca0 e q (by omega),AA]
   · dsimp only;rw [o,Dg9 (G:=fun i=>(List.range n).map (dI n V A i)) hk]
   · dsimp only;rw [p];rfl)
 obtain ⟨j,m⟩:=s
 dsimp only at d g h
 rw [Co6] at d
 subst d g
 exact ⟨u,h⟩
def eR (V:Mt) (i j:Nat):Rat:=((ent V i j:Int):Rat)
theorem Gu5 (V:Mt) (i j:Nat):IsI (eR V i j):=⟨_,rfl⟩
def cfI (V:Mt) (n k:Nat):Int:=(ber (eR V) n k).num
theorem Gv4 (V:Mt) (n k:Nat):((cfI V n k:Int):Rat)=ber (eR V) n k:=by
 obtain ⟨z,hz⟩:=Ff3 (Gu5 V) n k
 unfold cfI
 rw [hz,Rat.num_intCast]
theorem Er7 {k:Nat} {l:List Int} (hk:k<n) (hn:n≤8) (hV:Bd n V b) (hq:Sq n A) (hA:Bd n A M) (hf:∀ i j,i<n→j<n→((ent A i j:Int):Rat)=flN (eR V) n (ber (eR V) n) k i j) (hl:l=(List.range (k+1)).map (cfI V n)) (hc:∀ q,q≤k→(cfI V n q).natAbs<2^M)
 (hM:M+b+17≤34359738368):∃ A',Bz8 n V k (l,A)=some ((List.range (k+2)).map (cfI V n),A')∧Sq n A'∧Bd n A' (M+b+17)∧(∀ i j,i<n→j<n→((ent A' i j:Int):Rat)=flN (eR V) n (ber (eR V) n) (k+1) i j)∧∀ q,q≤k+1→(cfI V n q).natAbs<2^(M+b+17):=by
 have hgk:l.getD k 0=cfI V n k:=by
  rw [hl,AB,AH,AI (by omega)];rfl
 obtain ⟨A1,d,o,a⟩:=Fl9 hq hA (hc k (BH _)) (by omega)
 have hA1:Bd n A1 (M+1):=fun i j hi hj=>by
  rw [a i j hi hj]
  split
  · exact Du0 (hA i j hi hj) (hc k (BH _))
  · rw [Int.add_zero];exact Al5 (hA i j hi hj) (by omega)
 obtain ⟨f,g⟩:=Eu9 (A:=A1) hV hA1 (by omega)
 have dR:∀ i j,i<n→j<n→((dI n V A1 i j:Int):Rat)=flN (eR V) n (ber (eR V) n) (k+1) i j:=fun i j hi hj=>by
  unfold dI
  rw [Cf2,← Gh3 (ber (eR V) n) hi hj]
  refine Aa2 fun h hh=>?_
  rw [AQ,a h j hh hj,Rat.intCast_add,hf h j hh hj]
  congr 2
  split
  · exact Gv4 V n k
  · rfl
 have trR:((k+1:Nat):Rat)*ber (eR V) n (k+1) = - (((sI n fun i=>dI n V A1 i i:Int)):Rat):=by
  rw [(Ei2 n).step rfl k,Cf2,← Ha4]
  congr 1
  exact Aa2 fun i hi=>(dR i i hi hi).symm
 have trI:(sI n fun i=>dI n V A1 i i)=((k+1:Nat):Int) * - cfI V n (k+1):=by
  rw [← Gv4] at trR
  have e:((((k+1:Nat):Int) * - cfI V n (k+1):Int):Rat)=(((sI n fun i=>dI n V A1 i i:Int)):Rat):=by
   rw [AQ,Rat.intCast_neg]
   have:((((k+1:Nat):Int)):Rat)=((k+1:Nat):Rat):=rfl
   rw [this,Rat.mul_neg,trR,Rat.neg_neg]
  exact (Rat.intCast_inj.1 e).symm
 have m:((k+1:Nat):Int).natAbs<2^17:=by
  have:(2:Nat)^17=131072:=by decide
  omega
 have c2':=Al5 g (show b+(M+1)+n+n≤M+b+17 by omega)
 have hcn:(cfI V n (k+1)).natAbs<2^(M+b+17):=by
  refine AZ ?_ c2'
  rw [trI,Int.natAbs_mul,Int.natAbs_neg,AK]
  exact Nat.le_mul_of_pos_left _ (by omega)
 refine ⟨mxV n (dI n V A1),?_,Fn3 _ _,fun i j hi hj=>?_,fun i j hi hj=>by rw [Do0 hi hj];exact dR i j hi hj,fun q p=>?_⟩
 · unfold Bz8
   dsimp only
   rw [hgk,d,AA,f,AA]
   have hs:At5 ((k+1:Nat):Int)=some ((k+1:Nat):Int):=by unfold At5;rw [if_pos ⟨by omega,by omega⟩]
   rw [hs,AA,Ep6 c2' (Al5 m (by omega)) (by omega) (by omega),AA,trI,Int.mul_tdiv_cancel_left _ (by omega)]
   unfold Cr3
   rw [Ay1 (z := - cfI V n (k+1)) (by rw [Int.natAbs_neg];exact hcn) (by omega),AA,AA,Int.neg_neg,hl,Ay4]
 · rw [Do0 hi hj]
   exact Al5 (Cu5 hV hA1 hi hj (by omega)).2 (by omega)
 · by_cases e:q=k+1
   · rw [e];exact hcn
   · exact Al5 (hc q (by omega)) (by omega)
theorem Gu9 (hn:n≤8) (hV:Bd n V b) (hb:b≤1000000):Fa0 n V=some ((List.range (n+1)).map (cfI V n))∧∀ B,B=1+8*(b+17)→∀ q,q≤n→(cfI V n q).natAbs<2^B:=by
 have d:cfI V n 0=1:=by
  have:=Gv4 V n 0
  rw [Dj8] at this
  exact Rat.intCast_inj.1 this
 have hz:∀ i j,i<n→j<n→ent (List.replicate n (List.replicate n (0:Int))) i j=0:=fun i j hi hj=>by
  unfold ent
  rw [AB (l:=List.replicate n _),AP,if_pos hi,AD,AB,AP,if_pos hj,AD]
 obtain ⟨s,u,v,_,_,_,y⟩:=Ap2 (f:=Bz8 n V) (n:=n) (a:=([1],List.replicate n (List.replicate n 0)))
  (fun k (s:List Int×Mt)=>s.1=(List.range (k+1)).map (cfI V n)∧Sq n s.2∧Bd n s.2 (1+k*(b+17))∧(∀ i j,i<n→j<n→((ent s.2 i j:Int):Rat)=flN (eR V) n (ber (eR V) n) k i j)∧∀ q,q≤k→(cfI V n q).natAbs<2^(1+k*(b+17)))
  ⟨by show [1] = [cfI V n 0];rw [d],⟨by simp,fun l hl=>by rw [List.eq_of_mem_replicate hl];simp⟩,fun i j hi hj=>by rw [hz i j hi hj];exact AE _,fun i j hi hj=>by rw [hz i j hi hj];rfl,fun q hq=>by
   obtain rfl:q=0:=by omega
   rw [d,BD];decide⟩ (by
   rintro k ⟨l,A⟩ hk ⟨g,h,m,o,p⟩
   dsimp only at g h m o p
   have hm:k*(b+17)≤8*(b+17):=AX _ (by omega)
   obtain ⟨A',z,s2,r,s4,t⟩:=Er7 hk hn hV h m o g p (by omega)
   have e:1+k*(b+17)+b+17=1+(k+1)*(b+17):=by rw [Nat.add_mul];omega
   rw [e] at r t
   exact ⟨_,z,rfl,s2,r,s4,t⟩)
 refine ⟨?_,fun B hB q hq=>?_⟩
 · unfold Fa0
   rw [u,AA,v]
 · have hm:n*(b+17)≤8*(b+17):=AX _ hn
   exact Al5 (y q hq) (by omega)
end
end Go.Eng
/-
  inertia: told, Poly by value. No condition.
-/
namespace Go.Eng
open Go Go.Ine
theorem Gq7 {y q:Int} {k:Nat} (hy:y.natAbs<2^k) (hk:k≤60000000):Ao2 y q=some (Bm6 y q):=by
 generalize hn:y.natAbs=n at hy
 have len:(LW n).length≤1000000:=LW_len' hy (by omega)
 have key:Af5 Ai8 FU ((n:Int),([]:List Int))=some (LW n):=by
  obtain ⟨o,d,f⟩:=Ag0 (b:=Ai8) (fun i s=>∃ (m:Nat) (pre:List Int),s=((m:Int),pre)∧pre++LW m=LW n∧pre.length=i∧m<2^k) (LW n).length (fun o=>o=LW n) (by rw [Af4];omega)
   (fun i s hi ⟨m,pre,hs,hp,hl,hm⟩=>by
    subst hs
    have a:m≠0:=by
     rintro rfl
     rw [Am2,BI] at hp
     rw [← hp] at hi
     omega
    have g:An3 (m:Int)=some 1:=by unfold An3;rw [if_neg (by omega),if_neg (by omega)]
    have h:Aw0 (m:Int)=some ((m%18446744073709551616:Nat):Int):=by unfold Aw0;rw [AK]
    have j:Bi2 (m:Int) 64=some ((m/18446744073709551616:Nat):Int):=by
     unfold Bi2
     rw [if_pos ⟨by omega,by decide,by decide⟩,Ba3 (k:=k) (by simpa using hm) (by omega)]
     simp only [AA,AK];rfl
    refine ⟨(((m/18446744073709551616:Nat):Int),pre ++ [((m%18446744073709551616:Nat):Int)]),?_,_,_,rfl,?_,by simp;omega,AZ (Nat.div_le_self _ _) hm⟩
    · unfold Ai8
      dsimp only
      rw [g,AA,Ab0 (by decide),h,AA,AA,Bb3 (by simp;omega),AA,j,AA]
    · rw [BF,← hp,Bb1 a];rfl)
   (fun s ⟨m,pre,hs,hp,hl,hm⟩=>by
    subst hs
    have a:m=0:=by
     by_cases e:m=0
     · exact e
     · rw [← hp,Bb1 e] at hl
       simp at hl
    subst a
    rw [Am2,BI] at hp
    refine ⟨pre,?_,hp⟩
    unfold Ai8
    dsimp only
    rw [show An3 ((0:Nat):Int)=some 0 from rfl,AA,Ab1 (by decide)]) (s0:=((n:Int),([]:List Int))) ⟨n,[],rfl,rfl,rfl,hy⟩
  rw [d,f]
 unfold Ao2
 have ha:Bo3 y=some (n:Int):=by
  unfold Bo3
  rw [Ba3 (k:=k) (by rw [hn];exact hy) (by omega),AA,hn]
 have hsg:∃ t,An3 y=some t∧decide (t<0)=decide (y<0):=by
  unfold An3
  refine ⟨_,rfl,?_⟩
  by_cases c:y<0
  · rw [if_pos c,decide_eq_true c];rfl
  · rw [if_neg c,decide_eq_false c];split<;>rfl
 obtain ⟨t,ht,p⟩:=hsg
 rw [ht,AA,ha,AA,key,AA,p,Gq6 (Ba7 n) (by omega),AA]
 have hz:zD (decide (y<0)) (LW n)=y:=by
  unfold zD sgN
  rw [At7]
  by_cases c:y<0
  · rw [decide_eq_true c,if_pos rfl];omega
  · rw [decide_eq_false c,if_neg (by simp)];omega
 rw [hz]
theorem Gi6 {z e:Int} {d:Dy} (h:Bm6 z e=(d.1,d.2.1,d.2.2,0)):GdD d∧sgZ' (nDD d)=sgZ' z:=by
 rcases Ej4 z e with a | ⟨s,l,f,a,hg,j,hj,_⟩
 · rw [a] at h
   exact absurd (congrArg (fun x:DyR=>x.2.2.2) h) (by decide:(3:Int)≠0)
 · rw [a] at h
   simp only [Prod.mk.injEq] at h
   obtain ⟨rfl,rfl,rfl,_⟩:=h
   refine ⟨hg,?_⟩
   show sgZ' (nD d.1 d.2.1 d.2.2)=_
   rw [Fg3,← hj]
   have hp:(0:Int)<((2^j:Nat):Int):=by have:=AE j;omega
   generalize ((2^j:Nat):Int)=P at hp
   generalize zD d.1 d.2.1=x
   unfold sgZ'
   by_cases c:x<0
   · rw [if_pos c,if_pos (Int.mul_neg_of_neg_of_pos c hp)]
   · by_cases g:x=0
     · subst g;simp
     · have hx:0<x*P:=Int.mul_pos (by omega) hp
       rw [if_neg c,if_neg g,if_neg (by omega),if_neg (by omega)]
theorem Em2 {low:Int} {B:Nat} (hB:B≤60000000) (hlo : -1000000≤low∧low≤1000000):∀ (cs:List Int) (k:Nat) (acc:List Dy),(∀ c∈cs,c.natAbs<2^B)→k+cs.length≤100 →
 ∃ u e,Df3 low cs k acc=some (u,e)∧((e=3∧u = []∧∃ i c,cs[i]?=some c∧(Bm6 c (((k+i:Nat):Int)*low)).2.2.2=3)∨(e=0∧∃ ds:List Dy,u=(acc++ds).reverse∧ds.length=cs.length∧∀ i c,cs[i]?=some c→∃ d,ds[i]?=some d∧Bm6 c (((k+i:Nat):Int)*low)=(d.1,d.2.1,d.2.2,0)))
 | [],k,acc,_,_=>⟨_,_,rfl,.inr ⟨rfl,[],by simp,rfl,fun i c h=>by simp at h⟩⟩
 | c::cs,k,acc,hc,hk=>by
   have hk:k+cs.length+1≤100:=by simpa [Nat.add_assoc] using hk
   have hkl : -100000000≤(k:Int)*low∧(k:Int)*low≤100000000:=by
    have g:(k:Int)*low≤100*1000000:=by
     refine BB (AM hlo.2 (by omega)) ?_
     omega
    have j:(k:Int)*(-1000000)≤(k:Int)*low:=AM hlo.1 (by omega)
    omega
   unfold Df3
   rw [wrI (by omega) (by omega),Gq7 (hc c (AN ..)) hB,AA]
   rcases Dt7 c ((k:Int)*low) with h | h
   · rw [h,Ab0 (by decide)]
     exact ⟨_,_,rfl,.inl ⟨rfl,rfl,0,c,rfl,h⟩⟩
   · rw [h,Ab1 (by decide)]
     obtain ⟨u,e,g,j⟩:=Em2 hB hlo cs (k+1) (acc ++ [((Bm6 c ((k:Int)*low)).1,(Bm6 c ((k:Int)*low)).2.1,(Bm6 c ((k:Int)*low)).2.2.1)]) (fun x hx=>hc x (AU _ hx)) (by omega)
     refine ⟨u,e,g,?_⟩
     rcases j with ⟨rfl,rfl,i,x,a,f⟩ | ⟨rfl,ds,rfl,a,f⟩
     · exact .inl ⟨rfl,rfl,i+1,x,by simpa using a,by rw [show k+(i+1)=k+1+i by omega];exact f⟩
     · refine .inr ⟨rfl,_::ds,by rw [BF];rfl,by simp [a],fun i x hx=>?_⟩
       cases i with
       | zero=>
         have hx:c=x:=by simpa using hx
         subst hx
         refine ⟨_,rfl,?_⟩
         show Bm6 c ((k:Int)*low)=((Bm6 c ((k:Int)*low)).1,(Bm6 c ((k:Int)*low)).2.1,(Bm6 c ((k:Int)*low)).2.2.1,0)
         rw [← h]
       | succ i=>
         have hx:cs[i]?=some x:=by simpa using hx
         obtain ⟨d,m,o⟩:=f i x hx
         exact ⟨d,by simpa using m,by rw [show k+(i+1)=k+1+i by omega];exact o⟩
theorem Ev0.bd {n:Nat} {A:Nat→Nat→Int} {V:Mt} {low:Int} {ok:Bool} (h:Ev0 n A V low ok):(∃ b,b≤200001∧Bd n V b) ∧ -65536≤low∧low≤300000:=by
 rcases h.2 with ⟨z,_,a,d⟩ | ⟨t,M,a,d,hM,_,_,e,_⟩
 · refine ⟨⟨0,by omega,fun i j hi hj=>?_⟩,a,by omega⟩
   rw [(z i j hi hj).2];decide
 · exact ⟨⟨M,by omega,fun i j hi hj=>Ap3.1 (e i j hi hj)⟩,by omega,by omega⟩
theorem Gr7 {n:Nat} {l:List Dy} {V:Mt} {low:Int} {ok:Bool} (hS:SymD n l) (hn:n≤8) (hsc:Bl3 n l (false,[],0)=some (V,low,ok)) (hk:Ev0 n (aD n l (false,[],0)) V low ok) :
 (ok=false∧Af8 (n:Int) (n:Int) l=some ([],3))∨(ok=true∧((Af8 (n:Int) (n:Int) l=some ([],3)∧∃ i,i≤n∧(Bm6 (cfI V n i) ((i:Int)*low)).2.2.2=3)∨∃ u:List Dy,Af8 (n:Int) (n:Int) l=some (u,0)∧u.length=n+1 ∧
  ∀ i,i≤n→∃ d,u[n-i]?=some d∧Bm6 (cfI V n i) ((i:Int)*low)=(d.1,d.2.1,d.2.2,0))):=by
 obtain ⟨⟨b,r,hb⟩,s,v⟩:=hk.bd
 unfold Af8 Ep7
 rw [hS.t,AA,nT,hS.sq,cT,AG,hsc,AA]
 cases ok with
 | false=>exact .inl ⟨rfl,rfl⟩
 | true=>
   refine .inr ⟨rfl,?_⟩
   obtain ⟨k,m⟩:=Gu9 hn hb (by omega)
   dsimp only
   rw [nT,k,AA,Ab0 (by simp;omega)]
   obtain ⟨B,hB⟩:∃ B:Nat,B=1+8*(b+17):=⟨_,rfl⟩
   obtain ⟨u,e,g,o⟩:=Em2 (B:=B) (low:=low) (by omega) (by omega) ((List.range (n+1)).map (cfI V n)) 0 [] (fun c hc=>by
    obtain ⟨q,hq,rfl⟩:=List.mem_map.1 hc
    exact m B hB q (by have:=List.mem_range.1 hq;omega)) (by simp;omega)
   rcases o with ⟨rfl,rfl,i,x,a,f⟩ | ⟨rfl,ds,rfl,a,f⟩
   · rw [AH] at a
     obtain ⟨j,hj,rfl⟩:=Option.map_eq_some_iff.1 a
     obtain ⟨hi,rfl⟩:=List.getElem?_eq_some_iff.1 hj
     rw [List.length_range] at hi
     rw [List.getElem_range,Nat.zero_add] at f
     exact .inl ⟨g,i,by omega,f⟩
   · have hlen:ds.length=n+1:=by rw [a];simp
     refine .inr ⟨_,g,by simp [hlen],fun i hi=>?_⟩
     obtain ⟨d,p,h⟩:=f i (cfI V n i) (by rw [AH,AI (by omega)];rfl)
     rw [Nat.zero_add] at h
     refine ⟨d,?_,h⟩
     rw [List.nil_append,List.getElem?_reverse (by omega),hlen,show n+1-1-(n-i)=i by omega]
     exact p
theorem Gc2 (z:Int):sgR (z:Rat)=sgZ' z:=by
 have d:((z:Int):Rat)<0↔z<0:=Rat.intCast_lt_intCast (a:=z) (b:=0)
 have e:((z:Int):Rat)=0↔z=0:=Rat.intCast_inj (a:=z) (b:=0)
 unfold sgR sgZ'
 by_cases c:z<0
 · rw [if_pos c,if_pos (d.2 c)]
 · rw [if_neg c,if_neg (fun h=>c (d.1 h))]
   by_cases g:z=0
   · rw [if_pos g,if_pos (e.2 g)]
   · rw [if_neg g,if_neg (fun h=>g (e.1 h))]
theorem Er6 (s:Nat→Int):∀ k,(Aw6 s k).2≤k
 | 0=>BH _
 | k+1=>by
   have:=Er6 s k
   unfold Aw6
   split
   · omega
   · dsimp only;split<;>omega
end Go.Eng
