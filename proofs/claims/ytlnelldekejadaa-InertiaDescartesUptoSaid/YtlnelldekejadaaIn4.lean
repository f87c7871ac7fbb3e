/-
  inertia: scaled by value: the parts. No condition.
-/
import Derived.Test.YtlnelldekejadaaMx23
import Derived.Test.YtlnelldekejadaaMx24
import Derived.Test.YtlnelldekejadaaDy5
import Derived.Test.YtlnelldekejadaaDyN
import Derived.Test.YtlnelldekejadaaIne5
import Derived.Test.YtlnelldekejadaaWkL
set_option linter.all false
set_option maxRecDepth 100000
set_option maxHeartbeats 4000000
namespace Go.Eng
open Go
theorem iwhole_t {s:Bool} {l:List Int} {e low:Int} (h:Ld l) (hl:l.length≤256) (h0:l ≠ []→low≤e) (h1:e-low≤200000) (h2 : -200000≤e-low):T_inertia_whole s l e low=some (zD s l*((2^(e-low).toNat:Nat):Int)):=by
  have hw:=whole_t (s:=s) (e:=e) h (by omega)
  have e1:T_inertia_whole s l e low=cond (((l.length:Nat):Int)==0) (some 0) ((T_dyad_whole s l e).bind fun z=>(bigLsh z (IntKind.u64.wrap (IntKind.i64.wrap (e-low)))).bind fun t=>some t):=by
    unfold T_inertia_whole T_dyad_whole
    rw [Option.bind_some,Option.bind_some,Option.bind_some,Option.bind_assoc]
    simp only [Option.bind_assoc,Option.bind_some]
    rfl
  rw [e1,hw]
  cases l with
  | nil=>
    rw [cond_t (by simp)]
    show some 0=some (sgN s 0*_)
    cases s<;>simp [sgN]
  | cons x l=>
    rw [cond_f (by simp;omega),Option.bind_some]
    have hle:=h0 (by simp)
    obtain ⟨k,hk⟩:∃ k:Nat,e-low=k:=⟨(e-low).toNat,by omega⟩
    rw [hk,wrN (by omega),w64,Int.toNat_natCast]
    have hk2:((k:Nat):Int)%18446744073709551616=(k:Int):=by omega
    have hb:=lv_lt h
    have hz:(sgN s (lv (x::l))).natAbs=lv (x::l):=sgN_abs s _
    unfold bigLsh
    rw [hk2,if_pos ⟨by omega,by omega⟩,bgOk_bd (b:=64*(x::l).length) (by rw [hz];exact hb) (by omega),Option.bind_some,Int.toNat_natCast,
      bgOk_bd (b:=64*(x::l).length+k) (pow_lt_abs hz hb) (by omega),Option.bind_some]
    rfl
def vI (low:Int) (d:Dy):Int:=zD d.1 d.2.1*((2^(d.2.2-low).toNat:Nat):Int)
abbrev GdD (d:Dy):Prop:=Gd d.1 d.2.1 d.2.2
abbrev nDD (d:Dy):Int:=nD d.1 d.2.1 d.2.2
theorem vI_nD {low:Int} {d:Dy} (h:d.2.1 ≠ []→low≤d.2.2) (h1 : -65536≤low):vI low d*((2^(low+65536).toNat:Nat):Int)=nDD d:=by
  unfold vI nDD nD
  by_cases h0:d.2.1 = []
  · have:zD d.1 d.2.1=0:=by rw [h0];unfold zD sgN lv;cases d.1<;>rfl
    rw [this];simp
  · have:=h h0
    rw [Int.mul_assoc,← Int.natCast_mul,← Nat.pow_add,show (d.2.2-low).toNat+(low+65536).toNat=(d.2.2+65536).toNat by omega]
theorem vI_bd {low:Int} {d:Dy} (h:GdD d) (h1 : -65536≤low) {b:Nat} (hb:147456≤b):(vI low d).natAbs<2^b:=by
  unfold vI
  have hl:=lv_lt h.ld.1
  have h2:=h.ld
  have:=pow_lt_abs (j:=(d.2.2-low).toNat) (zD_abs d.1 d.2.1) hl
  exact bd_mono this (by omega)
theorem lowT_le:∀ (D:List Dy) (e:Int),lowT D e≤e
  | [],e=>Int.le_refl _
  | d::D,e=>by
    unfold lowT
    have:=lowT_le D (cond (decide (((d.2.1.length:Nat):Int)>0)) (if d.2.2<e then d.2.2 else e) e)
    refine Int.le_trans this ?_
    cases decide (((d.2.1.length:Nat):Int)>0)
    · exact Int.le_refl _
    · rw [cT];split<;>omega
theorem lowT_mem:∀ (D:List Dy) (e:Int) (d:Dy),d∈D→d.2.1 ≠ []→lowT D e≤d.2.2
  | x::D,e,d,h,h0=>by
    unfold lowT
    rcases List.mem_cons.1 h with rfl | h
    · refine Int.le_trans (lowT_le D _) ?_
      have:0<d.2.1.length:=List.length_pos_iff.2 h0
      rw [decide_eq_true (by omega),cT]
      split<;>omega
    · exact lowT_mem D _ d h h0
theorem lowT_ge:∀ (D:List Dy) (e m:Int),m≤e→(∀ d∈D,m≤d.2.2)→m≤lowT D e
  | [],e,m,h,_=>h
  | x::D,e,m,h,hD=>by
    unfold lowT
    refine lowT_ge D _ m ?_ fun d hd=>hD d (List.mem_cons_of_mem _ hd)
    have:=hD x (List.mem_cons_self ..)
    cases decide (((x.2.1.length:Nat):Int)>0)
    · exact h
    · rw [cT];split<;>omega
def stp (s:Int×Int) (v:Int):Int×Int:=if v=0 then s else ((if ((tzN v.natAbs:Nat):Int)<s.1 then ((tzN v.natAbs:Nat):Int) else s.1),(if ((blN v.natAbs:Nat):Int)>s.2 then ((blN v.natAbs:Nat):Int) else s.2))
theorem tzN_dvd (n:Nat):2^tzN n ∣ n:=by
  by_cases h0:n=0
  · subst h0;exact Nat.dvd_zero _
  · induction n using Nat.strongRecOn with
    | ind n ih=>
      rw [tzN_eq,if_neg h0]
      by_cases h1:n%2=1
      · rw [if_pos h1];exact Nat.one_dvd _
      · rw [if_neg h1,Nat.pow_succ]
        obtain ⟨c,hc⟩:=ih (n/2) (by omega) (by omega)
        refine ⟨c,?_⟩
        have:n=n/2*2:=by omega
        rw [Nat.mul_right_comm,← hc];exact this
theorem tzN_bl {n b:Nat} (h:n<2^b) (h0:n≠0):tzN n<b:=by
  have:=tzN_low h0
  rcases Nat.lt_or_ge (tzN n) b with g | g
  · exact g
  · have:=Nat.pow_le_pow_right (show 0<2 by decide) g
    omega
theorem scStep_t {s:Int×Int} {v:Int} {b:Nat} (hv:v.natAbs<2^b) (hb:b≤1000000):scStep s v=some (stp s v):=by
  unfold scStep stp
  by_cases h0:v=0
  · rw [if_pos h0,h0];rfl
  · rw [if_neg h0,cond_t (by unfold sgn;split<;>simp [h0])]
    have ht:=tzN_bl hv (by omega)
    unfold bigTrailingZeroBits bigBitLen
    rw [bgOk_bd hv (by omega),Option.bind_some,Option.bind_some,Option.bind_some,Option.bind_some,wrN (by omega)]
def Sn (S:Int→Prop) (s:Int×Int):Prop:=
  ((∀ v,S v→v=0)∧s=(1073741824,0)) ∨
  ((∃ v,S v∧v≠0∧s.1=((tzN v.natAbs:Nat):Int))∧(∀ v,S v→v≠0→s.1≤((tzN v.natAbs:Nat):Int))∧(∃ v,S v∧v≠0∧s.2=((blN v.natAbs:Nat):Int))∧∀ v,S v→((blN v.natAbs:Nat):Int)≤s.2)
theorem Sn.step {S S':Int→Prop} {s:Int×Int} {v:Int} {b:Nat} (h:Sn S s) (hv:v.natAbs<2^b) (hb:b≤1000000) (hS:∀ y,S' y↔S y∨y=v):Sn S' (stp s v):=by
  unfold stp
  by_cases h0:v=0
  · rw [if_pos h0]
    subst h0
    rcases h with ⟨h1,h2⟩ | ⟨⟨a,a1,a2,a3⟩,h2,⟨c,c1,c2,c3⟩,h4⟩
    · exact .inl ⟨fun y hy=>((hS y).1 hy).elim (h1 y) id,h2⟩
    · refine .inr ⟨⟨a,(hS a).2 (.inl a1),a2,a3⟩,fun y hy hn=>((hS y).1 hy).elim (fun g=>h2 y g hn) fun g=>absurd g hn,⟨c,(hS c).2 (.inl c1),c2,c3⟩,fun y hy=>((hS y).1 hy).elim (h4 y) fun g=>?_⟩
      subst g
      have e:blN (0:Int).natAbs=0:=rfl
      rw [e,c3]
      omega
  · rw [if_neg h0]
    have ht:=tzN_bl hv (by omega)
    have hp:=blN_pos (n:=v.natAbs) (by omega)
    rcases h with ⟨h1,rfl⟩ | ⟨⟨a,a1,a2,a3⟩,h2,⟨c,c1,c2,c3⟩,h4⟩
    · refine .inr ⟨⟨v,(hS v).2 (.inr rfl),h0,by dsimp only;rw [if_pos (by omega)]⟩,fun y hy hn=>((hS y).1 hy).elim (fun g=>absurd (h1 y g) hn) fun g=>?_,⟨v,(hS v).2 (.inr rfl),h0,by dsimp only;rw [if_pos (by omega)]⟩,fun y hy=>((hS y).1 hy).elim (fun g=>?_) fun g=>?_⟩
      · subst g;dsimp only;rw [if_pos (by omega)];exact Int.le_refl _
      · have:=h1 y g
        subst this
        have e:blN (0:Int).natAbs=0:=rfl
        rw [e];dsimp only;split<;>omega
      · subst g;dsimp only;rw [if_pos (by omega)];exact Int.le_refl _
    · refine .inr ⟨?_,fun y hy hn=>((hS y).1 hy).elim (fun g=>?_) fun g=>?_,?_,fun y hy=>((hS y).1 hy).elim (fun g=>?_) fun g=>?_⟩
      · dsimp only
        split
        · exact ⟨v,(hS v).2 (.inr rfl),h0,rfl⟩
        · exact ⟨a,(hS a).2 (.inl a1),a2,a3⟩
      · have:=h2 y g hn
        dsimp only;split<;>omega
      · subst g;dsimp only;split<;>omega
      · dsimp only
        split
        · exact ⟨v,(hS v).2 (.inr rfl),h0,rfl⟩
        · exact ⟨c,(hS c).2 (.inl c1),c2,c3⟩
      · have:=h4 y g
        dsimp only;split<;>omega
      · subst g;dsimp only;split<;>omega
end Go.Eng
/-
  inertia: scaled by value. No condition.
-/
set_option maxRecDepth 100000
set_option maxHeartbeats 4000000
namespace Go.Eng
open Go
theorem tzN_quo {n:Nat} (h0:n≠0):n/2^tzN n%2=1:=by
  induction n using Nat.strongRecOn with
  | ind n ih=>
    rw [tzN_eq,if_neg h0]
    by_cases h1:n%2=1
    · rw [if_pos h1,Nat.pow_zero,Nat.div_one];exact h1
    · rw [if_neg h1,Nat.pow_succ,Nat.mul_comm,← Nat.div_div_eq_div_mul]
      exact ih (n/2) (by omega) (by omega)
section
variable {n:Nat} {l:List Dy} {x:Dy} {low:Int} {B:Nat}
def aI (n:Nat) (l:List Dy) (x:Dy) (low:Int) (i j:Nat):Int:=vI low (l.getD (i*n+j) (false,[],0))-if i=j then vI low x else 0
def aD (n:Nat) (l:List Dy) (x:Dy) (i j:Nat):Int:=nDD (l.getD (i*n+j) (false,[],0))-if i=j then nDD x else 0
structure LowOk (l:List Dy) (x:Dy) (low:Int):Prop where
  gd:∀ d∈l,GdD d
  gx:GdD x
  lo : -65536≤low
  hi:low≤65536
  le:∀ d∈l,d.2.1 ≠ []→low≤d.2.2
  lx:x.2.1 ≠ []→low≤x.2.2
theorem lowOk_T (hl:∀ d∈l,GdD d) (hx:GdD x):LowOk l x (lowT (l ++ [x]) 65536):=by
  have hm:∀ d∈l ++ [x],GdD d:=fun d hd=>(List.mem_append.1 hd).elim (hl d) fun h=>by rw [List.mem_singleton.1 h];exact hx
  refine ⟨hl,hx,lowT_ge _ _ _ (by decide) fun d hd=>?_,lowT_le _ _,fun d hd h0=>lowT_mem _ _ d (List.mem_append_left _ hd) h0,fun h0=>lowT_mem _ _ x (List.mem_append_right _ (List.mem_cons_self ..)) h0⟩
  exact (hm d hd).ld.2.2.1
theorem gd_at (h:LowOk l x low) (hl:l.length=n*n) {i j:Nat} (hi:i<n) (hj:j<n):l.getD (i*n+j) (false,[],0)∈l:=by
  have:i*n+j<l.length:=by rw [hl];exact idxL hi hj
  rw [List.getD_eq_getElem?_getD,List.getElem?_eq_getElem this]
  exact List.getElem_mem _
theorem aI_aD (h:LowOk l x low) (hl:l.length=n*n) {i j:Nat} (hi:i<n) (hj:j<n):aI n l x low i j*((2^(low+65536).toNat:Nat):Int)=aD n l x i j:=by
  unfold aI aD
  rw [Int.sub_mul,vI_nD (h.le _ (gd_at h hl hi hj)) h.lo]
  split
  · rw [vI_nD h.lx h.lo]
  · simp
theorem aI_bd (h:LowOk l x low) (hl:l.length=n*n) (hB:B=147457) {i j:Nat} (hi:i<n) (hj:j<n):(aI n l x low i j).natAbs<2^B:=by
  obtain ⟨b,rfl⟩:∃ b,B=b+1:=⟨147456,hB⟩
  unfold aI
  refine bd_sub (b:=b) (vI_bd (h.gd _ (gd_at h hl hi hj)) h.lo (by omega)) ?_
  split
  · exact vI_bd h.gx h.lo (by omega)
  · exact Nat.two_pow_pos _
theorem vI_t {d:Dy} (hg:GdD d) (h1:d.2.1 ≠ []→low≤d.2.2) (h2 : -65536≤low) (h3:low≤65536):T_inertia_whole d.1 d.2.1 d.2.2 low=some (vI low d):=by
  have:=hg.ld
  rw [iwhole_t this.1 this.2.1 h1 (by omega) (by omega)]
  rfl
theorem scEnt_t (h:LowOk l x low) (hl:l.length=n*n) (hB:B=147457) {i j:Nat} (hi:i<n) (hj:j<n):scEnt n l x low i j=some (aI n l x low i j):=by
  have hm:=gd_at h hl hi hj
  obtain ⟨b,hb⟩:∃ b:Nat,b=147456:=⟨_,rfl⟩
  unfold scEnt aI
  rw [vI_t (h.gd _ hm) (h.le _ hm) h.lo h.hi,Option.bind_some]
  by_cases e:i=j
  · subst e
    rw [cond_t (by simp),if_pos rfl,vI_t h.gx h.lx h.lo h.hi,Option.bind_some,bigSub_s (b:=b) (vI_bd (h.gd _ hm) h.lo (by omega)) (vI_bd h.gx h.lo (by omega)) (by omega)]
  · rw [cond_f (by simp;omega),if_neg e,Int.sub_zero]
def seen (n:Nat) (l:List Dy) (x:Dy) (low:Int) (i j:Nat) (v:Int):Prop:=∃ p q,(p<i∨(p=i∧q<j))∧q<n∧v=aI n l x low p q
theorem scRow_t (h:LowOk l x low) (hl:l.length=n*n) (hB:B=147457) {i:Nat} (hi:i<n) {s:Int×Int} (hs:Sn (seen n l x low i 0) s) :
    ∃ s',scRow n l x low i s=some ((List.range n).map (aI n l x low i),s')∧Sn (seen n l x low (i+1) 0) s':=by
  obtain ⟨b,h1,h2,h3⟩:=foldO_ex (f:=fun j (r:List Int×(Int×Int))=>(scEnt n l x low i j).bind fun v=>(scStep r.2 v).bind fun s'=>some (r.1 ++ [v],s')) (n:=n) (a:=([],s))
    (fun j (r:List Int×(Int×Int))=>r.1=(List.range j).map (aI n l x low i)∧Sn (seen n l x low i j) r.2) ⟨rfl,hs⟩ (by
      rintro j ⟨r1,r2⟩ hj ⟨g1,g2⟩
      dsimp only at g1 g2
      have hb:=aI_bd (B:=B) h hl hB hi hj
      refine ⟨(r1 ++ [aI n l x low i j],stp r2 (aI n l x low i j)),?_,?_,?_⟩
      · rw [scEnt_t h hl hB hi hj,Option.bind_some,scStep_t hb (by omega),Option.bind_some]
      · dsimp only;rw [g1,map_range_snoc]
      · refine g2.step hb (by omega) fun y=>?_
        constructor
        · rintro ⟨p,q,a1,a2,rfl⟩
          by_cases e:p=i∧q=j
          · exact .inr (by rw [e.1,e.2])
          · exact .inl ⟨p,q,by omega,a2,rfl⟩
        · rintro (⟨p,q,a1,a2,rfl⟩ | rfl)
          · exact ⟨p,q,by omega,a2,rfl⟩
          · exact ⟨i,j,by omega,hj,rfl⟩)
  obtain ⟨b1,b2⟩:=b
  dsimp only at h2 h3
  subst h2
  refine ⟨b2,h1,?_⟩
  have e:seen n l x low (i+1) 0=seen n l x low i n:=by
    funext v
    refine propext ⟨?_,?_⟩
    · rintro ⟨p,q,a1,a2,rfl⟩;exact ⟨p,q,by omega,a2,rfl⟩
    · rintro ⟨p,q,a1,a2,rfl⟩;exact ⟨p,q,by omega,a2,rfl⟩
  rw [e];exact h3
def mxV (n:Nat) (f:Nat→Nat→Int):Mt:=(List.range n).map fun i=>(List.range n).map (f i)
theorem mxV_sq (n:Nat) (f:Nat→Nat→Int):Sq n (mxV n f):=by
  refine ⟨by unfold mxV;simp,fun r hr=>?_⟩
  obtain ⟨i,_,rfl⟩:=List.mem_map.1 hr
  simp
theorem mxV_ent {f:Nat→Nat→Int} {i j:Nat} (hi:i<n) (hj:j<n):ent (mxV n f) i j=f i j:=by
  unfold ent mxV
  rw [List.getD_eq_getElem?_getD (l:=List.map _ _),List.getElem?_map,List.getElem?_range hi]
  simp [hj]
theorem Sq.ext {V W:Mt} (hV:Sq n V) (hW:Sq n W) (h:∀ i j,i<n→j<n→ent V i j=ent W i j):V=W:=by
  refine List.ext_getElem (by rw [hV.1,hW.1]) fun i h1 h2=>?_
  have l1:=hV.2 _ (List.getElem_mem h1)
  have l2:=hW.2 _ (List.getElem_mem h2)
  refine List.ext_getElem (by rw [l1,l2]) fun j g1 g2=>?_
  have:=h i j (by rw [← hV.1];exact h1) (by rw [← l1];exact g1)
  unfold ent at this
  rw [List.getD_eq_getElem?_getD (l:=V),List.getD_eq_getElem?_getD (l:=W),List.getElem?_eq_getElem h1,List.getElem?_eq_getElem h2,Option.getD_some,Option.getD_some,List.getD_eq_getElem?_getD,List.getD_eq_getElem?_getD,List.getElem?_eq_getElem g1,List.getElem?_eq_getElem g2] at this
  exact this
theorem scAll_t (h:LowOk l x low) (hl:l.length=n*n) (hB:B=147457):∃ s',scAll n l x low=some (mxV n (aI n l x low),s')∧Sn (fun v=>∃ p q,p<n∧q<n∧v=aI n l x low p q) s':=by
  obtain ⟨b,h1,h2,h3⟩:=foldO_ex (f:=fun i (r:Mt×(Int×Int))=>(scRow n l x low i r.2).bind fun o=>some (r.1.set i o.1,o.2)) (n:=n) (a:=(List.replicate n [],(1073741824,0)))
    (fun i (r:Mt×(Int×Int))=>r.1=filled n [] (fun i=>(List.range n).map (aI n l x low i)) i∧Sn (seen n l x low i 0) r.2) ⟨filled_zero.symm,.inl ⟨fun v hv=>by obtain ⟨p,q,a1,_⟩:=hv;omega,rfl⟩⟩ (by
      rintro i ⟨r1,r2⟩ hi ⟨g1,g2⟩
      dsimp only at g1 g2
      obtain ⟨s',e1,e2⟩:=scRow_t h hl hB hi g2
      refine ⟨(r1.set i ((List.range n).map (aI n l x low i)),s'),?_,?_,e2⟩
      · dsimp only;rw [e1,Option.bind_some]
      · dsimp only;rw [g1,filled_set (G:=fun i=>(List.range n).map (aI n l x low i)) hi])
  obtain ⟨b1,b2⟩:=b
  dsimp only at h2 h3
  rw [filled_full] at h2
  subst h2
  refine ⟨b2,h1,?_⟩
  have e:(fun v=>∃ p q,p<n∧q<n∧v=aI n l x low p q)=seen n l x low n 0:=by
    funext v
    refine propext ⟨?_,?_⟩
    · rintro ⟨p,q,a1,a2,rfl⟩;exact ⟨p,q,by omega,a2,rfl⟩
    · rintro ⟨p,q,a1,a2,rfl⟩;exact ⟨p,q,by omega,a2,rfl⟩
  rw [e];exact h3
theorem shiftT_t {f g:Nat→Nat→Int} {t b:Nat} (ht:t≤1000000) (hb:b≤1000000) (hf:∀ i j,i<n→j<n→(f i j).natAbs<2^b) (hfg:∀ i j,i<n→j<n→f i j=g i j*((2^t:Nat):Int)):∃ V,shiftT n (t:Int) (mxV n f)=some V∧Sq n V∧∀ i j,i<n→j<n→ent V i j=g i j:=by
  have hp:=Nat.two_pow_pos t
  obtain ⟨V,h1,h2,h3⟩:=foldO_ex (f:=fun i V=>foldO (fun j V=>(bigRshF (ent V i j) (IntKind.u64.wrap (t:Int))).bind fun y=>some (setE V i j y)) n V) (n:=n) (a:=mxV n f)
    (fun i V=>Sq n V∧∀ p q,p<n→q<n→ent V p q=if p<i then g p q else f p q) ⟨mxV_sq n f,fun p q hp hq=>by rw [if_neg (by omega),mxV_ent hp hq]⟩ (by
      rintro i V1 hi ⟨a1,a2⟩
      obtain ⟨V2,b1,b2,b3⟩:=foldO_ex (f:=fun j V=>(bigRshF (ent V i j) (IntKind.u64.wrap (t:Int))).bind fun y=>some (setE V i j y)) (n:=n) (a:=V1)
        (fun j V=>Sq n V∧∀ p q,p<n→q<n→ent V p q=if p<i∨(p=i∧q<j) then g p q else f p q) ⟨a1,fun p q hp hq=>by
          rw [a2 p q hp hq]
          by_cases c:p<i
          · rw [if_pos c,if_pos (.inl c)]
          · rw [if_neg c,if_neg (by omega)]⟩ (by
          rintro j V3 hj ⟨c1,c2⟩
          refine ⟨setE V3 i j (g i j),?_,sq_setE c1 hi,fun p q hp hq=>?_⟩
          · rw [c2 i j hi hj,if_neg (by omega),w64n (by omega)]
            unfold bigRshF
            rw [if_pos ⟨by omega,by omega⟩,bgOk_bd (hf i j hi hj) (by omega),Option.bind_some,Option.bind_some,Int.toNat_natCast]
            have e2:(2:Int)^t=((2^t:Nat):Int):=by simp
            rw [e2,Int.fdiv_eq_ediv_of_nonneg _ (by omega),hfg i j hi hj,Int.mul_ediv_cancel _ (by omega)]
          · rw [ent_setE c1 hi hj]
            by_cases e:p=i∧q=j
            · rw [if_pos e,if_pos (by omega),e.1,e.2]
            · rw [if_neg e,c2 p q hp hq]
              by_cases c:p<i∨(p=i∧q<j)
              · rw [if_pos c,if_pos (by omega)]
              · rw [if_neg c,if_neg (by omega)])
      refine ⟨V2,b1,b2,fun p q hp hq=>?_⟩
      rw [b3 p q hp hq]
      by_cases c:p<i+1
      · rw [if_pos (by omega),if_pos c]
      · rw [if_neg (by omega),if_neg c])
  exact ⟨V,h1,h2,fun i j hi hj=>by rw [h3 i j hi hj,if_pos hi]⟩
def ScOk (n:Nat) (A:Nat→Nat→Int) (V:Mt) (low:Int) (ok:Bool):Prop:=
  Sq n V∧(((∀ i j,i<n→j<n→A i j=0∧ent V i j=0)∧ok=true ∧ -65536≤low∧low≤65536) ∨
    ∃ t M:Nat,low+65536=(t:Int)∧t≤300000∧M≤200000∧(∀ i j,i<n→j<n→A i j=ent V i j*((2^t:Nat):Int))∧(∃ i j,i<n∧j<n∧ent V i j%2=1)∧(∀ i j,i<n→j<n→blN (ent V i j).natAbs≤M)∧(∃ i j,i<n∧j<n∧blN (ent V i j).natAbs=M)∧ok=decide (M*n≤8192))
theorem blN_quo {n t:Nat} (h0:n≠0):blN (n*2^t)=blN n+t:=blN_shift n t h0
theorem scaled_t (hn:n≤48) (hl:l.length=n*n) (hg:∀ d∈l,GdD d) (hx:GdD x):∃ V low ok,scaledT n l x=some (V,low,ok)∧ScOk n (aD n l x) V low ok:=by
  have h:=lowOk_T hg hx
  unfold scaledT
  generalize lowT (l ++ [x]) 65536=lw at *
  obtain ⟨B,hB⟩:∃ B:Nat,B=147457:=⟨_,rfl⟩
  obtain ⟨⟨least,most⟩,h1,h2⟩:=scAll_t (B:=B) h hl hB
  rw [h1,Option.bind_some]
  dsimp only
  have hlo:=h.lo
  have hhi:=h.hi
  rcases h2 with ⟨z1,z2⟩ | ⟨⟨a,⟨p,q,hp,hq,rfl⟩,a2,a3⟩,c2,⟨c,⟨p',q',hp',hq',rfl⟩,d2,d3⟩,c4⟩
  · cases z2
    rw [cond_t (by decide)]
    refine ⟨_,_,_,rfl,mxV_sq _ _,.inl ⟨fun i j hi hj=>?_,rfl,hlo,hhi⟩⟩
    have e:=z1 _ ⟨i,j,hi,hj,rfl⟩
    rw [mxV_ent hi hj,← aI_aD h hl hi hj,e]
    exact ⟨by simp,rfl⟩
  · dsimp only at a3 c2 d3 c4
    have bp:=aI_bd h hl hB hp hq
    have bp':=aI_bd h hl hB hp' hq'
    have hne:(aI n l x lw p q).natAbs≠0:=by omega
    have hne':(aI n l x lw p' q').natAbs≠0:=by omega
    have ht:=tzN_bl bp hne
    have hM:=blN_le.2 bp'
    have hM0:=blN_pos hne'
    generalize hT:tzN (aI n l x lw p q).natAbs=T at *
    generalize hMM:blN (aI n l x lw p' q').natAbs=M at *
    subst a3 d3
    rw [cond_f (by simp;omega)]
    have hdv:∀ i j,i<n→j<n→∃ g:Int,aI n l x lw i j=g*((2^T:Nat):Int):=fun i j hi hj=>by
      by_cases h0:aI n l x lw i j=0
      · exact ⟨0,by rw [h0];simp⟩
      · have hle:=c2 _ ⟨i,j,hi,hj,rfl⟩ h0
        obtain ⟨c,hc⟩:=tzN_dvd (aI n l x lw i j).natAbs
        have hpow:(2:Nat)^tzN (aI n l x lw i j).natAbs=2^(tzN (aI n l x lw i j).natAbs-T)*2^T:=by rw [← Nat.pow_add];congr 1;omega
        have hdvd:((2^T:Nat):Int) ∣ aI n l x lw i j:=by
          rw [← Int.dvd_natAbs]
          refine Int.natCast_dvd_natCast.2 ⟨2^(tzN (aI n l x lw i j).natAbs-T)*c,?_⟩
          conv=>lhs;rw [hc]
          rw [hpow,Nat.mul_comm _ (2^T),Nat.mul_assoc]
        obtain ⟨g,hg⟩:=hdvd
        exact ⟨g,by rw [hg,Int.mul_comm]⟩
    let g:Nat→Nat→Int:=fun i j=>aI n l x lw i j/((2^T:Nat):Int)
    have hP:((2^T:Nat):Int)≠0:=by have:=Nat.two_pow_pos T;omega
    have hg2:∀ i j,i<n→j<n→aI n l x lw i j=g i j*((2^T:Nat):Int):=fun i j hi hj=>by
      obtain ⟨y,hy⟩:=hdv i j hi hj
      show _=aI n l x lw i j/_*_
      rw [hy,Int.mul_ediv_cancel _ hP]
    obtain ⟨V,s1,s2,s3⟩:=shiftT_t (n:=n) (t:=T) (b:=B) (f:=aI n l x lw) (g:=g) (by omega) (by omega) (fun i j hi hj=>aI_bd h hl hB hi hj) hg2
    rw [s1,Option.bind_some]
    have habs:∀ i j,i<n→j<n→(aI n l x lw i j).natAbs=(g i j).natAbs*2^T:=fun i j hi hj=>by rw [hg2 i j hi hj,Int.natAbs_mul,Int.natAbs_natCast]
    have hTM:T<M:=by
      have e:=habs p q hp hq
      have h3:=c4 _ ⟨p,q,hp,hq,rfl⟩
      have h4:(g p q).natAbs≠0:=fun c=>hne (by rw [e,c,Nat.zero_mul])
      rw [e,blN_quo h4] at h3
      have:=blN_pos h4
      omega
    have wr1:IntKind.i64.wrap (lw+(T:Int))=lw+(T:Int):=wrI (by omega) (by omega)
    have wr2:IntKind.i64.wrap (IntKind.i64.wrap ((M:Int)-(T:Int))*(n:Int))=(((M-T)*n:Nat):Int):=by
      rw [wrI (n:=(M:Int)-(T:Int)) (by omega) (by omega),show (M:Int)-(T:Int)=((M-T:Nat):Int) by omega]
      have:(M-T)*n≤147457*48:=Nat.mul_le_mul (by omega) hn
      exact wrMul (by omega)
    refine ⟨V,_,_,rfl,s2,.inr ⟨(lw+65536).toNat+T,M-T,?_,by omega,by omega,fun i j hi hj=>?_,⟨p,q,hp,hq,?_⟩,fun i j hi hj=>?_,⟨p',q',hp',hq',?_⟩,?_⟩⟩
    · rw [wr1];omega
    · rw [s3 i j hi hj,← aI_aD h hl hi hj,hg2 i j hi hj,Int.mul_assoc,← Int.natCast_mul,← Nat.pow_add,Nat.add_comm T]
    · rw [s3 p q hp hq]
      have e:=habs p q hp hq
      have:=tzN_quo hne
      rw [hT,e,Nat.mul_div_cancel _ (Nat.two_pow_pos T)] at this
      omega
    · rw [s3 i j hi hj]
      by_cases h0:(g i j).natAbs=0
      · rw [h0];exact Nat.zero_le _
      · have h3:=c4 _ ⟨i,j,hi,hj,rfl⟩
        rw [habs i j hi hj,blN_quo h0] at h3
        omega
    · rw [s3 p' q' hp' hq']
      have e:=habs p' q' hp' hq'
      have h4:(g p' q').natAbs≠0:=fun c=>hne' (by rw [e,c,Nat.zero_mul])
      have h5:=hMM
      rw [e,blN_quo h4] at h5
      omega
    · rw [wr2]
      refine decide_eq_decide.2 ?_
      omega
end
theorem odd_t {a b:Int} {s t:Nat} (h:a*((2^s:Nat):Int)=b*((2^t:Nat):Int)) (ha:a%2=1):t≤s:=by
  rcases Nat.lt_or_ge s t with c | c
  · exfalso
    obtain ⟨k,rfl⟩:∃ k,t=s+1+k:=⟨t-s-1,by omega⟩
    rw [show s+1+k=k+1+s by omega,Nat.pow_add,Int.natCast_mul,← Int.mul_assoc] at h
    have:=pow_cancel h
    rw [Nat.pow_succ,Int.natCast_mul,← Int.mul_assoc] at this
    omega
  · exact c
theorem ScOk.one {n:Nat} {A A':Nat→Nat→Int} {V V':Mt} {low low':Int} {ok ok':Bool} (hA:∀ i j,i<n→j<n→A i j=A' i j) (h:ScOk n A V low ok) (h':ScOk n A' V' low' ok'):V=V'∧ok=ok':=by
  obtain ⟨q,h⟩:=h
  obtain ⟨q',h'⟩:=h'
  have nz:∀ {A:Nat→Nat→Int} {V:Mt} {t:Nat},(∀ i j,i<n→j<n→A i j=ent V i j*((2^t:Nat):Int))→(∃ i j,i<n∧j<n∧ent V i j%2=1)→∃ i j,i<n∧j<n∧A i j≠0:=fun {A V t} h1 ⟨i,j,hi,hj,ho⟩=>by
    refine ⟨i,j,hi,hj,?_⟩
    rw [h1 i j hi hj]
    refine Int.mul_ne_zero (by omega) ?_
    have:=Nat.two_pow_pos t;omega
  rcases h with ⟨z,rfl,_⟩ | ⟨t,M,_,_,_,e1,e2,e3,e4,e5⟩<;>rcases h' with ⟨z',rfl,_⟩ | ⟨t',M',_,_,_,f1,f2,f3,f4,f5⟩
  · exact ⟨q.ext q' fun i j hi hj=>by rw [(z i j hi hj).2,(z' i j hi hj).2],rfl⟩
  · obtain ⟨i,j,hi,hj,hne⟩:=nz f1 f2
    exact absurd ((hA i j hi hj).symm.trans (z i j hi hj).1) hne
  · obtain ⟨i,j,hi,hj,hne⟩:=nz e1 e2
    exact absurd ((hA i j hi hj).trans (z' i j hi hj).1) hne
  · have ht:t=t':=by
      obtain ⟨i,j,hi,hj,ho⟩:=e2
      obtain ⟨i',j',hi',hj',ho'⟩:=f2
      have a1:=odd_t ((e1 i j hi hj).symm.trans ((hA i j hi hj).trans (f1 i j hi hj))) ho
      have a2:=odd_t ((f1 i' j' hi' hj').symm.trans ((hA i' j' hi' hj').symm.trans (e1 i' j' hi' hj'))) ho'
      omega
    subst ht
    have hV:V=V':=q.ext q' fun i j hi hj=>pow_cancel ((e1 i j hi hj).symm.trans ((hA i j hi hj).trans (f1 i j hi hj)))
    subst hV
    have hM:M=M':=by
      obtain ⟨i,j,hi,hj,ho⟩:=e4
      obtain ⟨i',j',hi',hj',ho'⟩:=f4
      have a1:=f3 i j hi hj
      have a2:=e3 i' j' hi' hj'
      omega
    subst hM
    exact ⟨rfl,by rw [e5,f5]⟩
end Go.Eng
/-
  inertia: Right, Symmetric by value; what signs tells. No condition.
-/
set_option maxRecDepth 100000
set_option maxHeartbeats 4000000
namespace Go.Eng
open Go Go.Ine
theorem contains_t {l:List Dy} {f:Dy→Option Bool} {p:Dy→Bool} (hf:∀ d∈l,f d=some (p d)) (hl:l.length≤4294967296):T_slices_ContainsFunc___api_Dyad_api_Dyad l f=some (l.any p):=by
  have at_:∀ i,i<l.length→∃ d,atI l (i:Int)=some d∧f (d.1,d.2.1,d.2.2)=some (p d)∧l[i]?=some d:=fun i hi=>by
    refine ⟨l[i],at_nat hi,hf _ (List.getElem_mem hi),List.getElem?_eq_getElem hi⟩
  unfold T_slices_ContainsFunc___api_Dyad_api_Dyad T_slices_IndexFunc___api_Dyad_api_Dyad
  rw [Option.bind_some]
  rcases first_mark (fun i=>p (l.getD i (false,[],0))) l.length with h | ⟨i,hi,h1,h2⟩
  · have h:=fun i (hi:i<l.length)=>h i hi
    have:=iter_nat (b:=T_slices_IndexFunc___api_Dyad_api_Dyad_b2 ((l.length:Nat):Int) l f) (fun i=>((i:Nat):Int)) (o:=(.inl ():Unit⊕Int)) l.length (by rw [FU_eq];omega) (fun i hi=>by
      obtain ⟨d,e1,e2,e3⟩:=at_ i hi
      have e4:=h i hi
      rw [List.getD_eq_getElem?_getD,e3,Option.getD_some] at e4
      unfold T_slices_IndexFunc___api_Dyad_api_Dyad_b2
      dsimp only
      rw [cond_t (by simp;omega),e1,Option.bind_some,e2,Option.bind_some,e4,cF,wrU (by omega)]) (by
      unfold T_slices_IndexFunc___api_Dyad_api_Dyad_b2
      dsimp only
      rw [cond_f (by simp)])
    have this:iter (T_slices_IndexFunc___api_Dyad_api_Dyad_b2 ((l.length:Nat):Int) l f) FU 0=some (.inl ()):=this
    rw [this,Option.bind_some]
    have:l.any p=false:=by
      rw [List.any_eq_false]
      intro d hd
      obtain ⟨i,hi,rfl⟩:=List.mem_iff_getElem.1 hd
      have:=h i hi
      rw [List.getD_eq_getElem?_getD,List.getElem?_eq_getElem hi,Option.getD_some] at this
      simp [this]
    rw [this];rfl
  · have:=iter_nat (b:=T_slices_IndexFunc___api_Dyad_api_Dyad_b2 ((l.length:Nat):Int) l f) (fun i=>((i:Nat):Int)) (o:=(.inr ((i:Nat):Int):Unit⊕Int)) i (by rw [FU_eq];omega) (fun k hk=>by
      obtain ⟨d,e1,e2,e3⟩:=at_ k (by omega)
      have e4:=h2 k hk
      rw [List.getD_eq_getElem?_getD,e3,Option.getD_some] at e4
      unfold T_slices_IndexFunc___api_Dyad_api_Dyad_b2
      dsimp only
      rw [cond_t (by simp;omega),e1,Option.bind_some,e2,Option.bind_some,e4,cF,wrU (by omega)]) (by
      obtain ⟨d,e1,e2,e3⟩:=at_ i hi
      have e4:=h1
      rw [List.getD_eq_getElem?_getD,e3,Option.getD_some] at e4
      unfold T_slices_IndexFunc___api_Dyad_api_Dyad_b2
      dsimp only
      rw [cond_t (by simp;omega),e1,Option.bind_some,e2,Option.bind_some,e4,cT])
    have this:iter (T_slices_IndexFunc___api_Dyad_api_Dyad_b2 ((l.length:Nat):Int) l f) FU 0=some (.inr ((i:Nat):Int)):=this
    rw [this,Option.bind_some]
    have:l.any p=true:=by
      rw [List.any_eq_true]
      refine ⟨l[i],List.getElem_mem hi,?_⟩
      rw [List.getD_eq_getElem?_getD,List.getElem?_eq_getElem hi,Option.getD_some] at h1
      exact h1
    rw [this]
    simp
def LdL (l:List Dy):Prop:=∀ d∈l,Ld d.2.1∧d.2.1.length≤4294967296
theorem fits_t (r:Int):T_inertia_fits r=some (decide (0≤r∧r≤48)):=by
  unfold T_inertia_fits
  refine eq_cond (fun h=>?_) (fun h=>?_)<;>simp at h<;>simp<;>omega
theorem rightI_t {r c:Int} {l:List Dy} (hl:LdL l) (hn:l.length≤4294967296):∃ b,T_inertia_Right r c l=some b∧(b=true↔∃ n m:Nat,r=n∧c=m∧n≤48∧m≤48∧l.length=n*m∧∀ d∈l,GdD d):=by
  unfold T_inertia_Right
  rw [fits_t,Option.bind_some]
  classical
  refine ⟨decide (∃ n m:Nat,r=n∧c=m∧n≤48∧m≤48∧l.length=n*m∧∀ d∈l,GdD d),?_,?_⟩
  · by_cases h1:0≤r∧r≤48
    · rw [decide_eq_true h1,cT,fits_t,Option.bind_some]
      by_cases h2:0≤c∧c≤48
      · rw [decide_eq_true h2,cT,Option.bind_some]
        obtain ⟨n,rfl⟩:∃ n:Nat,r=n:=⟨r.toNat,by omega⟩
        obtain ⟨m,rfl⟩:∃ m:Nat,c=m:=⟨c.toNat,by omega⟩
        have hb:n*m≤48*48:=Nat.mul_le_mul (by omega) (by omega)
        rw [wrMul (by omega)]
        refine eq_cond (fun h=>?_) (fun h=>?_)
        · have h:l.length=n*m:=by simp at h;exact_mod_cast h
          have hr:∀ d∈l,∃ b,T_dyad_Right d.1 d.2.1 d.2.2=some b∧(b=true↔GdD d):=fun d hd=>dright_t (hl d hd).1 (hl d hd).2
          rw [contains_t (p:=fun d => !decide (GdD d)) (fun d hd=>by
            obtain ⟨b,h1,h2⟩:=hr d hd
            show T_inertia_Right_1 d.1 d.2.1 d.2.2=_
            unfold T_inertia_Right_1
            rw [h1,Option.bind_some]
            cases b with
            | true=>rw [decide_eq_true (h2.1 rfl)]
            | false=>rw [decide_eq_false (fun g=>by cases h2.2 g)]) hn,Option.bind_some]
          congr 1
          rw [Bool.eq_iff_iff]
          simp only [Bool.not_eq_true',List.any_eq_false,Bool.not_eq_true,decide_eq_true_iff]
          constructor
          · intro g
            exact ⟨n,m,rfl,rfl,by omega,by omega,h,fun d hd=>by have:=g d hd;simpa using this⟩
          · rintro ⟨n',m',_,_,_,_,_,g⟩ d hd
            have:=g d hd
            simpa using this
        · congr 1
          symm
          rw [decide_eq_false_iff_not]
          rintro ⟨n',m',e1,e2,_,_,e3,_⟩
          obtain rfl:n=n':=by omega
          obtain rfl:m=m':=by omega
          simp at h
          exact h (by exact_mod_cast e3)
      · rw [decide_eq_false h2,cF]
        congr 1
        symm
        rw [decide_eq_false_iff_not]
        rintro ⟨n',m',e1,e2,_,_,_,_⟩
        omega
    · rw [decide_eq_false h1,cF]
      congr 1
      symm
      rw [decide_eq_false_iff_not]
      rintro ⟨n',m',e1,e2,_,_,_,_⟩
      omega
  · rw [decide_eq_true_iff]
structure SymD (n:Nat) (l:List Dy):Prop where
  le:n≤48
  len:l.length=n*n
  gd:∀ d∈l,GdD d
  sym:∀ i j,i<n→j<n→nDD (l.getD (i*n+j) (false,[],0))=nDD (l.getD (j*n+i) (false,[],0))
theorem symI_t {r c:Int} {l:List Dy} (hl:LdL l) (hn:l.length≤4294967296):∃ b,T_inertia_Symmetric r c l=some b∧(b=true↔∃ n:Nat,r=n∧c=n∧SymD n l):=by
  obtain ⟨b,h1,h2⟩:=rightI_t (r:=r) (c:=c) hl hn
  unfold T_inertia_Symmetric
  rw [h1,Option.bind_some]
  classical
  cases b with
  | false=>
    rw [cond_f (by rfl),Option.bind_some,cT]
    refine ⟨_,rfl,?_⟩
    constructor
    · intro h;cases h
    · rintro ⟨n,e1,e2,hS⟩
      exact h2.2 ⟨n,n,e1,e2,hS.le,hS.le,hS.len,hS.gd⟩
  | true=>
    obtain ⟨n,m,rfl,rfl,hn1,hm1,hll,hg⟩:=h2.1 rfl
    rw [cond_t (by rfl),Option.bind_some]
    by_cases hnm:n=m
    rotate_left
    · rw [cond_t (by simp;omega)]
      refine ⟨_,rfl,?_⟩
      constructor
      · intro h;cases h
      · rintro ⟨n',e1,e2,_⟩;omega
    · subst hnm
      rw [cond_f (by simp)]
      let ne:Nat→Nat→Bool:=fun i j=>decide (nDD (l.getD (i*n+j) (false,[],0))≠nDD (l.getD (j*n+i) (false,[],0)))
      have hidx:∀ i j,i<n→j<n→i*n+j<l.length:=fun i j hi hj=>by rw [hll];exact idxL hi hj
      have hnn:n*n≤48*48:=Nat.mul_le_mul hn1 hn1
      have gm:∀ i j,i<n→j<n→GdD (l.getD (i*n+j) (false,[],0)):=fun i j hi hj=>by
        have:=hidx i j hi hj
        rw [List.getD_eq_getElem?_getD,List.getElem?_eq_getElem this]
        exact hg _ (List.getElem_mem _)
      have stepI:∀ i j,i<n→j<i→T_inertia_Symmetric_b7 (i:Int) l (n:Int) ((j:Nat):Int)=if ne i j then some (.inr (.inr false)) else some (.inl ((j+1:Nat):Int)):=fun i j hi hj=>by
        unfold T_inertia_Symmetric_b7
        dsimp only
        rw [cond_t (by simp;omega),wrIdx hi (show j<n by omega) (by omega),wrIdx (show j<n by omega) hi (by omega),at_getD (false,[],0) (hidx i j hi (by omega)),Option.bind_some,at_getD (false,[],0) (hidx j i (by omega) hi),Option.bind_some,cmp_gd (gm i j hi (by omega)) (gm j i (by omega) hi),Option.bind_some]
        dsimp only
        by_cases e:nDD (l.getD (i*n+j) (false,[],0))=nDD (l.getD (j*n+i) (false,[],0))
        · rw [show ne i j=false from decide_eq_false (fun h=>h e)]
          have e:nD (l.getD (i*n+j) (false,[],0)).1 (l.getD (i*n+j) (false,[],0)).2.1 (l.getD (i*n+j) (false,[],0)).2.2=nD (l.getD (j*n+i) (false,[],0)).1 (l.getD (j*n+i) (false,[],0)).2.1 (l.getD (j*n+i) (false,[],0)).2.2:=e
          rw [e,cond_f (by unfold cmpZ;simp),wrU (by omega)]
          rfl
        · rw [show ne i j=true from decide_eq_true e]
          have e2:cmpZ (nD (l.getD (i*n+j) (false,[],0)).1 (l.getD (i*n+j) (false,[],0)).2.1 (l.getD (i*n+j) (false,[],0)).2.2) (nD (l.getD (j*n+i) (false,[],0)).1 (l.getD (j*n+i) (false,[],0)).2.1 (l.getD (j*n+i) (false,[],0)).2.2)≠0:=by
            unfold cmpZ
            split
            · decide
            · first
              | decide
              | (rw [if_neg e];decide)
          rw [cond_t (by simpa using e2)]
          rfl
      have rowI:∀ i,i<n→((∀ j,j<i→ne i j=false)∧iter (T_inertia_Symmetric_b7 (i:Int) l (n:Int)) FU 0=some (.inl ()))∨((∃ j,j<i∧ne i j=true)∧iter (T_inertia_Symmetric_b7 (i:Int) l (n:Int)) FU 0=some (.inr false)):=fun i hi=>by
        rcases first_mark (ne i) i with h | ⟨j,hj,g1,g2⟩
        · refine .inl ⟨h,?_⟩
          exact iter_nat (b:=T_inertia_Symmetric_b7 (i:Int) l (n:Int)) (fun j=>((j:Nat):Int)) i (by rw [FU_eq];omega) (fun j hj=>by rw [stepI i j hi hj,h j hj];rfl) (by
            unfold T_inertia_Symmetric_b7
            dsimp only
            rw [cond_f (by simp)])
        · refine .inr ⟨⟨j,hj,g1⟩,?_⟩
          exact iter_nat (b:=T_inertia_Symmetric_b7 (i:Int) l (n:Int)) (fun j=>((j:Nat):Int)) j (by rw [FU_eq];omega) (fun k hk=>by rw [stepI i k hi (by omega),g2 k hk];rfl) (by rw [stepI i j hi hj,g1];rfl)
      have out:((∀ i j,i<n→j<i→ne i j=false)∧iter (T_inertia_Symmetric_b5 (n:Int) l (n:Int)) FU 0=some (.inl ()))∨((∃ i j,i<n∧j<i∧ne i j=true)∧iter (T_inertia_Symmetric_b5 (n:Int) l (n:Int)) FU 0=some (.inr false)):=by
        rcases first_mark (fun i=>decide (∃ j,j<i∧ne i j=true)) n with h | ⟨i,hi,g1,g2⟩
        · have h:∀ i,i<n→∀ j,j<i→ne i j=false:=fun i hi j hj=>by
            have:=h i hi
            rw [decide_eq_false_iff_not] at this
            cases e:ne i j with
            | false=>rfl
            | true=>exact absurd ⟨j,hj,e⟩ this
          refine .inl ⟨fun i j hi hj=>h i hi j hj,?_⟩
          exact iter_nat (b:=T_inertia_Symmetric_b5 (n:Int) l (n:Int)) (fun i=>((i:Nat):Int)) n (by rw [FU_eq];omega) (fun i hi=>by
            unfold T_inertia_Symmetric_b5
            dsimp only
            rw [cond_t (by simp;omega)]
            rcases rowI i hi with ⟨_,g⟩ | ⟨⟨j,hj,g⟩,_⟩
            · rw [g,Option.bind_some];dsimp only;rw [wrU (by omega)]
            · rw [h i hi j hj] at g;cases g) (by
            unfold T_inertia_Symmetric_b5
            dsimp only
            rw [cond_f (by simp)])
        · obtain ⟨j,hj,g1⟩:=of_decide_eq_true g1
          refine .inr ⟨⟨i,j,hi,hj,g1⟩,?_⟩
          exact iter_nat (b:=T_inertia_Symmetric_b5 (n:Int) l (n:Int)) (fun i=>((i:Nat):Int)) i (by rw [FU_eq];omega) (fun k hk=>by
            have h:=g2 k hk
            rw [decide_eq_false_iff_not] at h
            unfold T_inertia_Symmetric_b5
            dsimp only
            rw [cond_t (by simp;omega)]
            rcases rowI k (by omega) with ⟨_,g⟩ | ⟨g,_⟩
            · rw [g,Option.bind_some];dsimp only;rw [wrU (by omega)]
            · exact absurd g h) (by
            unfold T_inertia_Symmetric_b5
            dsimp only
            rw [cond_t (by simp;omega)]
            rcases rowI i hi with ⟨g,_⟩ | ⟨_,g⟩
            · rw [g j hj] at g1;cases g1
            · rw [g,Option.bind_some])
      rcases out with ⟨g,h⟩ | ⟨⟨i,j,hi,hj,g⟩,h⟩
      · rw [h,Option.bind_some]
        refine ⟨_,rfl,⟨fun _=>⟨n,rfl,rfl,hn1,hll,hg,fun i j hi hj=>?_⟩,fun _=>rfl⟩⟩
        rcases Nat.lt_trichotomy i j with c | c | c
        · have:=of_decide_eq_false (g j i hj c)
          exact (Decidable.of_not_not this).symm
        · subst c;rfl
        · have:=of_decide_eq_false (g i j hi c)
          exact Decidable.of_not_not this
      · rw [h,Option.bind_some]
        refine ⟨_,rfl,⟨fun c=>(by cases c),fun ⟨n',e1,_,hS⟩=>?_⟩⟩
        obtain rfl:n=n':=by omega
        exact absurd (hS.sym i j hi (by omega)) (of_decide_eq_true g)
theorem ent_out {n:Nat} {V:Mt} (h:Sq n V) {i j:Nat} (hij : ¬ (i<n∧j<n)):ent V i j=0:=by
  unfold ent
  by_cases hi:i<n
  · have hl:i<V.length:=by rw [h.1];exact hi
    have:=h.2 _ (List.getElem_mem hl)
    rw [List.getD_eq_getElem?_getD (l:=V),List.getElem?_eq_getElem hl,Option.getD_some,List.getD_eq_getElem?_getD,List.getElem?_eq_none (by omega)]
    rfl
  · rw [List.getD_eq_getElem?_getD (l:=V),List.getElem?_eq_none (by rw [h.1];omega)]
    rfl
theorem sgs_t {n:Nat} {A:Nat→Nat→Int} {V:Mt} {low:Int} {ok:Bool} (hn:n≤8) (hA:∀ i j,i<n→j<n→A i j=A j i) (h:ScOk n A V low ok) :
    ∃ B T Ab:Nat,signsT n V=some ((B:Int),(T:Int),(Ab:Int))∧B+T+Ab=n∧Sig n (fun i j=>(A i j:Rat)) B Ab:=by
  obtain ⟨q,h⟩:=h
  have key:∃ t b:Nat,(∀ i j,i<n→j<n→A i j=ent V i j*((2^t:Nat):Int))∧1≤b∧b≤200001∧Bd n V b:=by
    rcases h with ⟨z,_⟩ | ⟨t,M,_,_,hM,e1,_,e3,_,_⟩
    · exact ⟨0,1,fun i j hi hj=>by rw [(z i j hi hj).1,(z i j hi hj).2];simp,by omega,by omega,fun i j hi hj=>by rw [(z i j hi hj).2];decide⟩
    · exact ⟨t,M+1,e1,by omega,by omega,fun i j hi hj=>bd_mono (blN_le.1 (e3 i j hi hj)) (by omega)⟩
  obtain ⟨t,b,e1,b1,b2,hb⟩:=key
  have hs:∀ i j,ent V i j=ent V j i:=fun i j=>by
    by_cases c:i<n∧j<n
    · exact pow_cancel ((e1 i j c.1 c.2).symm.trans ((hA i j c.1 c.2).trans (e1 j i c.2 c.1)))
    · rw [ent_out q c,ent_out q (fun d=>c ⟨d.2,d.1⟩)]
  have hp:2^n≤2^8:=Nat.pow_le_pow_right (by decide) hn
  have hpw:(b+6)*2^n≤200007*2^8:=Nat.mul_le_mul (by omega) hp
  obtain ⟨res,hr⟩:=signsT_some q hs hb b1 (Nat.le_trans hpw (by decide))
  obtain ⟨B,T,Ab,rfl,h1,h2⟩:=signsT_sig q hs hr
  refine ⟨B,T,Ab,hr,h1,?_⟩
  have hc:(0:Rat)<(((2^t:Nat):Int):Rat):=by
    have:=Nat.two_pow_pos t
    have:(0:Int)<((2^t:Nat):Int):=by omega
    exact Rat.intCast_pos.2 this
  refine (h2.scale hc).ext fun i j hi hj=>?_
  rw [e1 i j hi hj,Rat.intCast_mul,Rat.mul_comm]
end Go.Eng
/-
  inertia: Below and Signs by value; great, copies. No condition.
-/
set_option maxRecDepth 100000
set_option maxHeartbeats 4000000
namespace Go.Eng
open Go Go.Ine
theorem iter_ex {τ ω:Type} {b:τ→Option (τ⊕ω)} (Q:Nat→τ→Prop) (O:ω→Prop) (n:Nat) (hn:n<FU) (step:∀ k s,k≤n→Q k s→(∃ o,b s=some (.inr o)∧O o)∨(k<n∧∃ s',b s=some (.inl s')∧Q (k+1) s')) {s0:τ} (h0:Q 0 s0):∃ o,iter b FU s0=some o∧O o:=by
  have key:∀ k i m s,i+k=n→k<m→Q i s→∃ o,iter b m s=some o∧O o:=by
    intro k
    induction k with
    | zero=>
      intro i m s hi hm hI
      obtain ⟨m,rfl⟩:∃ q,m=q+1:=⟨m-1,by omega⟩
      rcases step i s (by omega) hI with ⟨o,h1,h2⟩ | ⟨h,_⟩
      · exact ⟨o,by rw [iter_succ,h1],h2⟩
      · omega
    | succ k ih=>
      intro i m s hi hm hI
      obtain ⟨m,rfl⟩:∃ q,m=q+1:=⟨m-1,by omega⟩
      rcases step i s (by omega) hI with ⟨o,h1,h2⟩ | ⟨_,s',h1,h2⟩
      · exact ⟨o,by rw [iter_succ,h1],h2⟩
      · obtain ⟨o,h3,h4⟩:=ih (i+1) m s' (by omega) (by omega) h2
        exact ⟨o,by rw [iter_succ,h1];exact h3,h4⟩
  exact key n 0 FU s0 (by omega) hn h0
theorem awake16:T_w16_awake=some true:=by decide +kernel
theorem great_t {r c:Int} {l:List Dy} (hn:l.length≤4294967296):∃ b,T_w16_great r c l=some b∧(b=false→r≤8∧c≤8):=by
  obtain ⟨o,h,_⟩:=iter_ex (b:=T_w16_great_b2 l) (fun k s=>s.2=(k:Int)) (fun _=>True) l.length (by rw [FU_eq];omega) (s0:=(0,0)) (fun k s hk hs=>by
    obtain ⟨a,b⟩:=s
    dsimp only at hs
    subst hs
    unfold T_w16_great_b2
    dsimp only
    rw [Option.bind_some]
    by_cases hk2:k<l.length
    · rw [cond_t (by simp;omega)]
      by_cases ha:a≤400
      · rw [decide_eq_true ha,cT,at_nat hk2,Option.bind_some,Option.bind_some,wrU (by omega)]
        exact .inr ⟨hk2,_,rfl,rfl⟩
      · rw [decide_eq_false ha,cF]
        exact .inl ⟨_,rfl,trivial⟩
    · rw [cond_f (by simp;omega)]
      exact .inl ⟨_,rfl,trivial⟩) rfl
  unfold T_w16_great
  rw [h,Option.bind_some]
  by_cases h1:r>8
  · rw [decide_eq_true h1]
    exact ⟨_,rfl,fun h=>by cases h⟩
  · rw [decide_eq_false h1,Bool.not_false,cT]
    by_cases h2:c>8
    · rw [decide_eq_true h2]
      exact ⟨_,rfl,fun h=>by cases h⟩
    · rw [decide_eq_false h2,Bool.not_false,cT]
      exact ⟨_,rfl,fun _=>⟨by omega,by omega⟩⟩
theorem SymD.ldL {n:Nat} {l:List Dy} (h:SymD n l):LdL l:=fun d hd=>⟨(h.gd d hd).ld.1,by have:=(h.gd d hd).ld.2.1;omega⟩
theorem SymD.small {n:Nat} {l:List Dy} (h:SymD n l):l.length≤2304:=by
  rw [h.len]
  exact Nat.mul_le_mul h.le h.le
theorem SymD.sq {n:Nat} {l:List Dy} (h:SymD n l):sqG (n:Int) (n:Int) l=true:=by
  have:=h.le
  refine decide_eq_true ⟨by omega,by omega,rfl,?_⟩
  rw [h.len];exact Int.natCast_mul n n
theorem SymD.t {n:Nat} {l:List Dy} (h:SymD n l):T_inertia_Symmetric (n:Int) (n:Int) l=some true:=by
  obtain ⟨b,h1,h2⟩:=symI_t (r:=(n:Int)) (c:=(n:Int)) h.ldL (by have:=h.small;omega)
  rw [h1,h2.2 ⟨n,rfl,rfl,h⟩]
theorem SymD.aD {n:Nat} {l:List Dy} (h:SymD n l) (x:Dy):∀ i j,i<n→j<n→aD n l x i j=aD n l x j i:=fun i j hi hj=>by
  unfold Go.Eng.aD
  rw [h.sym i j hi hj]
  by_cases e:i=j
  · subst e;rfl
  · rw [if_neg e,if_neg (fun c=>e c.symm)]
theorem signs_t {n:Nat} {l:List Dy} (hS:SymD n l) (hn:n≤8) :
    ∃ V low ok,scaledT n l (false,[],0)=some (V,low,ok)∧ScOk n (aD n l (false,[],0)) V low ok∧((ok=false∧T_inertia_Signs (n:Int) (n:Int) l=some (0,0,0,3)) ∨
      (ok=true∧∃ B T Ab:Nat,signsT n V=some ((B:Int),(T:Int),(Ab:Int))∧B+T+Ab=n∧Sig n (fun i j=>(aD n l (false,[],0) i j:Rat)) B Ab∧T_inertia_Signs (n:Int) (n:Int) l=some ((B:Int),(T:Int),(Ab:Int),0))):=by
  obtain ⟨V,low,ok,h1,h2⟩:=scaled_t (x:=(false,[],0)) hS.le hS.len hS.gd (.inl ⟨rfl,rfl,rfl⟩)
  refine ⟨V,low,ok,h1,h2,?_⟩
  obtain ⟨B,T,Ab,g1,g2,g3⟩:=sgs_t hn (hS.aD _) h2
  unfold T_inertia_Signs signsDo
  rw [hS.t,Option.bind_some,hS.sq,Int.toNat_natCast,h1,Option.bind_some]
  cases ok with
  | false=>exact .inl ⟨rfl,rfl⟩
  | true=>
      refine .inr ⟨rfl,B,T,Ab,g1,g2,g3,?_⟩
      show (signsT n V).bind _=_
      rw [g1];rfl
theorem nDD_nil:nDD (false,[],0)=0:=by
  unfold nDD nD
  have:zD false []=0:=rfl
  rw [this,Int.zero_mul]
end Go.Eng
