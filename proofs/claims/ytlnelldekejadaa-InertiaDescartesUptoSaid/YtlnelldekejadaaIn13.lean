/-
  inertia: the coefficients by value. No condition.
-/
import Derived.Test.YtlnelldekejadaaIn4
import Derived.Test.YtlnelldekejadaaMx24
import Derived.Test.YtlnelldekejadaaCh3
import Derived.Test.YtlnelldekejadaaDyN
import Derived.Test.YtlnelldekejadaaCh9
import Derived.Test.YtlnelldekejadaaRow5
set_option linter.all false
set_option maxRecDepth 100000
set_option maxHeartbeats 4000000
namespace Go.Eng
open Go Go.Ine
def sI:Nat→(Nat→Int)→Int
  | 0,_=>0
  | n+1,f=>sI n f+f n
theorem sI_cast (f:Nat→Int):∀ n,((sI n f:Int):Rat)=sm n fun k=>(f k:Rat)
  | 0=>rfl
  | n+1=>by
    unfold sI sm
    rw [Rat.intCast_add,sI_cast f n]
theorem sI_congr {f g:Nat→Int}:∀ {n:Nat},(∀ k,k<n→f k=g k)→sI n f=sI n g
  | 0,_=>rfl
  | n+1,h=>by unfold sI;rw [sI_congr (n:=n) fun k hk=>h k (by omega),h n (by omega)]
section
variable {n b M:Nat} {V A:Mt} {c:Int}
theorem coefAdd_t (hq:Sq n A) (hA:Bd n A M) (hc:c.natAbs<2^M) (hM:M≤34359738368):∃ A1,coefAdd n c A=some A1∧Sq n A1∧∀ i j,i<n→j<n→ent A1 i j=ent A i j+if i=j then c else 0:=by
  obtain ⟨A1,h1,h2,h3⟩:=foldO_ex (f:=fun i A=>(bigAdd (ent A i i) c).bind fun y=>some (setE A i i y)) (n:=n) (a:=A)
    (fun k B=>Sq n B∧∀ i j,i<n→j<n→ent B i j=ent A i j+if i=j∧i<k then c else 0) ⟨hq,fun i j _ _=>by rw [if_neg (by omega)];omega⟩ (by
      rintro k B hk ⟨g1,g2⟩
      refine ⟨setE B k k (ent A k k+c),?_,sq_setE g1 hk,fun i j hi hj=>?_⟩
      · rw [g2 k k hk hk,if_neg (by omega),Int.add_zero,bigAdd_s (hA k k hk hk) hc hM];rfl
      · rw [ent_setE g1 hk hk]
        by_cases e:i=k∧j=k
        · rw [if_pos e,if_pos (by omega),e.1,e.2]
        · rw [if_neg e,g2 i j hi hj]
          by_cases e2:i=j∧i<k
          · rw [if_pos e2,if_pos (by omega)]
          · rw [if_neg e2,if_neg (by omega)])
  refine ⟨A1,h1,h2,fun i j hi hj=>?_⟩
  rw [h3 i j hi hj]
  by_cases e:i=j
  · rw [if_pos ⟨e,hi⟩,if_pos e]
  · rw [if_neg (by omega),if_neg e]
def dI (n:Nat) (V A:Mt) (i j:Nat):Int:=sI n fun h=>ent V i h*ent A h j
theorem coefDot_t (hV:Bd n V b) (hA:Bd n A M) {i j:Nat} (hi:i<n) (hj:j<n) (hM:b+M+n≤34359738368):coefDot n V A i j=some (dI n V A i j)∧(dI n V A i j).natAbs<2^(b+M+n):=by
  obtain ⟨v,h1,h2,h3⟩:=foldO_ex (f:=fun h x=>(bigMul (ent V i h) (ent A h j)).bind fun y=>bigAdd x y) (n:=n) (a:=(0:Int))
    (fun k x=>x=sI k (fun h=>ent V i h*ent A h j)∧x.natAbs<2^(b+M+k)) ⟨rfl,Nat.two_pow_pos _⟩ (by
      rintro k x hk ⟨g1,g2⟩
      have p1:=bd_mul (hV i k hi hk) (hA k j hk hj)
      have p2:=bd_mono p1 (show b+M≤b+M+k by omega)
      refine ⟨x+ent V i k*ent A k j,?_,by rw [g1];rfl,bd_add g2 p2⟩
      rw [bigMul_s (b:=b+M) (bd_mono (hV i k hi hk) (by omega)) (bd_mono (hA k j hk hj) (by omega)) (by omega),Option.bind_some,bigAdd_s g2 p2 (by omega)])
  subst h2
  exact ⟨h1,h3⟩
theorem coefRow_t (hV:Bd n V b) (hA:Bd n A M) {i:Nat} (hi:i<n) (hM:b+M+n≤34359738368):coefRow n V A i=some ((List.range n).map (dI n V A i)):=by
  obtain ⟨l,h1,h2⟩:=foldO_ex (f:=fun j l=>(coefDot n V A i j).bind fun x=>some (l ++ [x])) (n:=n) (a:=([]:List Int)) (fun k l=>l=(List.range k).map (dI n V A i)) rfl (by
    rintro k l hk rfl
    exact ⟨_,by rw [(coefDot_t hV hA hi hk hM).1];rfl,map_range_snoc⟩)
  subst h2
  exact h1
theorem coefNext_t (hV:Bd n V b) (hA:Bd n A M) (hM:b+M+n+n≤34359738368):coefNext n V A=some (mxV n (dI n V A),sI n fun i=>dI n V A i i)∧(sI n fun i=>dI n V A i i).natAbs<2^(b+M+n+n):=by
  obtain ⟨s,h1,h2,h3,h4⟩:=foldO_ex (f:=fun i (s:Mt×Int)=>(coefRow n V A i).bind fun r=>(bigAdd s.2 (r.getD i 0)).bind fun t=>some (s.1.set i r,t)) (n:=n) (a:=(List.replicate n [],0))
    (fun k (s:Mt×Int)=>s.1=filled n [] (fun i=>(List.range n).map (dI n V A i)) k∧s.2=sI k (fun i=>dI n V A i i)∧s.2.natAbs<2^(b+M+n+k)) ⟨filled_zero.symm,rfl,Nat.two_pow_pos _⟩ (by
      rintro k ⟨s1,s2⟩ hk ⟨g1,g2,g3⟩
      dsimp only at g1 g2 g3
      have hd:=(coefDot_t hV hA hk hk (by omega)).2
      have hg:((List.range n).map (dI n V A k)).getD k 0=dI n V A k k:=by
        rw [List.getD_eq_getElem?_getD,List.getElem?_map,List.getElem?_range hk];rfl
      have p2:=bd_mono hd (show b+M+n≤b+M+n+k by omega)
      refine ⟨(s1.set k ((List.range n).map (dI n V A k)),s2+dI n V A k k),?_,?_,?_,bd_add g3 p2⟩
      · rw [coefRow_t hV hA hk (by omega),Option.bind_some,hg,bigAdd_s g3 p2 (by omega),Option.bind_some]
      · dsimp only;rw [g1,filled_set (G:=fun i=>(List.range n).map (dI n V A i)) hk]
      · dsimp only;rw [g2];rfl)
  obtain ⟨s1,s2⟩:=s
  dsimp only at h2 h3 h4
  rw [filled_full] at h2
  subst h2 h3
  exact ⟨h1,h4⟩
def eR (V:Mt) (i j:Nat):Rat:=((ent V i j:Int):Rat)
theorem eR_int (V:Mt) (i j:Nat):IsI (eR V i j):=⟨_,rfl⟩
def cfI (V:Mt) (n k:Nat):Int:=(ber (eR V) n k).num
theorem cf_c (V:Mt) (n k:Nat):((cfI V n k:Int):Rat)=ber (eR V) n k:=by
  obtain ⟨z,hz⟩:=ber_int (eR_int V) n k
  unfold cfI
  rw [hz,Rat.num_intCast]
theorem coefStep_t {k:Nat} {l:List Int} (hk:k<n) (hn:n≤8) (hV:Bd n V b) (hq:Sq n A) (hA:Bd n A M) (hf:∀ i j,i<n→j<n→((ent A i j:Int):Rat)=flN (eR V) n (ber (eR V) n) k i j) (hl:l=(List.range (k+1)).map (cfI V n)) (hc:∀ q,q≤k→(cfI V n q).natAbs<2^M)
    (hM:M+b+17≤34359738368):∃ A',coefStep n V k (l,A)=some ((List.range (k+2)).map (cfI V n),A')∧Sq n A'∧Bd n A' (M+b+17)∧(∀ i j,i<n→j<n→((ent A' i j:Int):Rat)=flN (eR V) n (ber (eR V) n) (k+1) i j)∧∀ q,q≤k+1→(cfI V n q).natAbs<2^(M+b+17):=by
  have hgk:l.getD k 0=cfI V n k:=by
    rw [hl,List.getD_eq_getElem?_getD,List.getElem?_map,List.getElem?_range (by omega)];rfl
  obtain ⟨A1,a1,a2,a3⟩:=coefAdd_t hq hA (hc k (Nat.le_refl _)) (by omega)
  have hA1:Bd n A1 (M+1):=fun i j hi hj=>by
    rw [a3 i j hi hj]
    split
    · exact bd_add (hA i j hi hj) (hc k (Nat.le_refl _))
    · rw [Int.add_zero];exact bd_mono (hA i j hi hj) (by omega)
  obtain ⟨c1,c2⟩:=coefNext_t (A:=A1) hV hA1 (by omega)
  have dR:∀ i j,i<n→j<n→((dI n V A1 i j:Int):Rat)=flN (eR V) n (ber (eR V) n) (k+1) i j:=fun i j hi hj=>by
    unfold dI
    rw [sI_cast,← fl_next (ber (eR V) n) hi hj]
    refine sm_congr fun h hh=>?_
    rw [Rat.intCast_mul,a3 h j hh hj,Rat.intCast_add,hf h j hh hj]
    congr 2
    split
    · exact cf_c V n k
    · rfl
  have trR:((k+1:Nat):Rat)*ber (eR V) n (k+1) = - (((sI n fun i=>dI n V A1 i i:Int)):Rat):=by
    rw [(ber_N n).step rfl k,sI_cast,← fl_tr]
    congr 1
    exact sm_congr fun i hi=>(dR i i hi hi).symm
  have trI:(sI n fun i=>dI n V A1 i i)=((k+1:Nat):Int) * - cfI V n (k+1):=by
    rw [← cf_c] at trR
    have e:((((k+1:Nat):Int) * - cfI V n (k+1):Int):Rat)=(((sI n fun i=>dI n V A1 i i:Int)):Rat):=by
      rw [Rat.intCast_mul,Rat.intCast_neg]
      have:((((k+1:Nat):Int)):Rat)=((k+1:Nat):Rat):=rfl
      rw [this,Rat.mul_neg,trR,Rat.neg_neg]
    exact (Rat.intCast_inj.1 e).symm
  have h8:((k+1:Nat):Int).natAbs<2^17:=by
    have:(2:Nat)^17=131072:=by decide
    omega
  have c2':=bd_mono c2 (show b+(M+1)+n+n≤M+b+17 by omega)
  have hcn:(cfI V n (k+1)).natAbs<2^(M+b+17):=by
    refine Nat.lt_of_le_of_lt ?_ c2'
    rw [trI,Int.natAbs_mul,Int.natAbs_neg,Int.natAbs_natCast]
    exact Nat.le_mul_of_pos_left _ (by omega)
  refine ⟨mxV n (dI n V A1),?_,mxV_sq _ _,fun i j hi hj=>?_,fun i j hi hj=>by rw [mxV_ent hi hj];exact dR i j hi hj,fun q hq2=>?_⟩
  · unfold coefStep
    dsimp only
    rw [hgk,a1,Option.bind_some,c1,Option.bind_some]
    have hs:bigSetInt64 ((k+1:Nat):Int)=some ((k+1:Nat):Int):=by unfold bigSetInt64;rw [if_pos ⟨by omega,by omega⟩]
    rw [hs,Option.bind_some,bigQuo_s c2' (bd_mono h8 (by omega)) (by omega) (by omega),Option.bind_some,trI,Int.mul_tdiv_cancel_left _ (by omega)]
    unfold bigNeg
    rw [bgOk_bd (z := - cfI V n (k+1)) (by rw [Int.natAbs_neg];exact hcn) (by omega),Option.bind_some,Option.bind_some,Int.neg_neg,hl,map_range_snoc]
  · rw [mxV_ent hi hj]
    exact bd_mono (coefDot_t hV hA1 hi hj (by omega)).2 (by omega)
  · by_cases e:q=k+1
    · rw [e];exact hcn
    · exact bd_mono (hc q (by omega)) (by omega)
theorem coef_t (hn:n≤8) (hV:Bd n V b) (hb:b≤1000000):coefT n V=some ((List.range (n+1)).map (cfI V n))∧∀ B,B=1+8*(b+17)→∀ q,q≤n→(cfI V n q).natAbs<2^B:=by
  have c0:cfI V n 0=1:=by
    have:=cf_c V n 0
    rw [ber_zero] at this
    exact Rat.intCast_inj.1 this
  have hz:∀ i j,i<n→j<n→ent (List.replicate n (List.replicate n (0:Int))) i j=0:=fun i j hi hj=>by
    unfold ent
    rw [List.getD_eq_getElem?_getD (l:=List.replicate n _),List.getElem?_replicate,if_pos hi,Option.getD_some,List.getD_eq_getElem?_getD,List.getElem?_replicate,if_pos hj,Option.getD_some]
  obtain ⟨s,h1,h2,_,_,_,h6⟩:=foldO_ex (f:=coefStep n V) (n:=n) (a:=([1],List.replicate n (List.replicate n 0)))
    (fun k (s:List Int×Mt)=>s.1=(List.range (k+1)).map (cfI V n)∧Sq n s.2∧Bd n s.2 (1+k*(b+17))∧(∀ i j,i<n→j<n→((ent s.2 i j:Int):Rat)=flN (eR V) n (ber (eR V) n) k i j)∧∀ q,q≤k→(cfI V n q).natAbs<2^(1+k*(b+17)))
    ⟨by show [1] = [cfI V n 0];rw [c0],⟨by simp,fun l hl=>by rw [List.eq_of_mem_replicate hl];simp⟩,fun i j hi hj=>by rw [hz i j hi hj];exact Nat.two_pow_pos _,fun i j hi hj=>by rw [hz i j hi hj];rfl,fun q hq=>by
      obtain rfl:q=0:=by omega
      rw [c0,Nat.zero_mul];decide⟩ (by
      rintro k ⟨l,A⟩ hk ⟨g1,g2,g3,g4,g5⟩
      dsimp only at g1 g2 g3 g4 g5
      have hm:k*(b+17)≤8*(b+17):=Nat.mul_le_mul_right _ (by omega)
      obtain ⟨A',s1,s2,s3,s4,s5⟩:=coefStep_t hk hn hV g2 g3 g4 g1 g5 (by omega)
      have e:1+k*(b+17)+b+17=1+(k+1)*(b+17):=by rw [Nat.add_mul];omega
      rw [e] at s3 s5
      exact ⟨_,s1,rfl,s2,s3,s4,s5⟩)
  refine ⟨?_,fun B hB q hq=>?_⟩
  · unfold coefT
    rw [h1,Option.bind_some,h2]
  · have hm:n*(b+17)≤8*(b+17):=Nat.mul_le_mul_right _ hn
    exact bd_mono (h6 q hq) (by omega)
end
end Go.Eng
/-
  inertia: told, Poly by value. No condition.
-/
set_option maxRecDepth 100000
set_option maxHeartbeats 4000000
namespace Go.Eng
open Go Go.Ine
theorem told_t {y q:Int} {k:Nat} (hy:y.natAbs<2^k) (hk:k≤60000000):T_inertia_told y q=some (cano y q):=by
  generalize hn:y.natAbs=n at hy
  have len:(LW n).length≤1000000:=LW_len' hy (by omega)
  have key:iter T_inertia_told_b2 FU ((n:Int),([]:List Int))=some (LW n):=by
    obtain ⟨o,h1,h2⟩:=iter_inv (b:=T_inertia_told_b2) (fun i s=>∃ (m:Nat) (pre:List Int),s=((m:Int),pre)∧pre++LW m=LW n∧pre.length=i∧m<2^k) (LW n).length (fun o=>o=LW n) (by rw [FU_eq];omega)
      (fun i s hi ⟨m,pre,hs,hp,hl,hm⟩=>by
        subst hs
        have hm0:m≠0:=by
          rintro rfl
          rw [LW_zero,List.append_nil] at hp
          rw [← hp] at hi
          omega
        have e1:bigSign (m:Int)=some 1:=by unfold bigSign;rw [if_neg (by omega),if_neg (by omega)]
        have e3:bigUint64 (m:Int)=some ((m%18446744073709551616:Nat):Int):=by unfold bigUint64;rw [Int.natAbs_natCast]
        have e4:bigRsh (m:Int) 64=some ((m/18446744073709551616:Nat):Int):=by
          unfold bigRsh
          rw [if_pos ⟨by omega,by decide,by decide⟩,bgOk_b (k:=k) (by simpa using hm) (by omega)]
          simp only [Option.bind_some,Int.natAbs_natCast];rfl
        refine ⟨(((m/18446744073709551616:Nat):Int),pre ++ [((m%18446744073709551616:Nat):Int)]),?_,_,_,rfl,?_,by simp;omega,Nat.lt_of_le_of_lt (Nat.div_le_self _ _) hm⟩
        · unfold T_inertia_told_b2
          dsimp only
          rw [e1,Option.bind_some,cond_t (by decide),e3,Option.bind_some,Option.bind_some,app_le (by simp;omega),Option.bind_some,e4,Option.bind_some]
        · rw [List.append_assoc,← hp,LW_pos hm0];rfl)
      (fun s ⟨m,pre,hs,hp,hl,hm⟩=>by
        subst hs
        have hm0:m=0:=by
          by_cases e:m=0
          · exact e
          · rw [← hp,LW_pos e] at hl
            simp at hl
        subst hm0
        rw [LW_zero,List.append_nil] at hp
        refine ⟨pre,?_,hp⟩
        unfold T_inertia_told_b2
        dsimp only
        rw [show bigSign ((0:Nat):Int)=some 0 from rfl,Option.bind_some,cond_f (by decide)]) (s0:=((n:Int),([]:List Int))) ⟨n,[],rfl,rfl,rfl,hy⟩
    rw [h1,h2]
  unfold T_inertia_told
  have ha:bigAbs y=some (n:Int):=by
    unfold bigAbs
    rw [bgOk_b (k:=k) (by rw [hn];exact hy) (by omega),Option.bind_some,hn]
  have hsg:∃ t,bigSign y=some t∧decide (t<0)=decide (y<0):=by
    unfold bigSign
    refine ⟨_,rfl,?_⟩
    by_cases c:y<0
    · rw [if_pos c,decide_eq_true c];rfl
    · rw [if_neg c,decide_eq_false c];split<;>rfl
  obtain ⟨t,ht,ht2⟩:=hsg
  rw [ht,Option.bind_some,ha,Option.bind_some,key,Option.bind_some,ht2,norm_t (LW_ld n) (by omega),Option.bind_some]
  have hz:zD (decide (y<0)) (LW n)=y:=by
    unfold zD sgN
    rw [lv_LW]
    by_cases c:y<0
    · rw [decide_eq_true c,if_pos rfl];omega
    · rw [decide_eq_false c,if_neg (by simp)];omega
  rw [hz]
theorem cano_sg {z e:Int} {d:Dy} (h:cano z e=(d.1,d.2.1,d.2.2,0)):GdD d∧sgZ' (nDD d)=sgZ' z:=by
  rcases cano_out z e with h1 | ⟨s,l,f,h1,hg,j,hj,_⟩
  · rw [h1] at h
    exact absurd (congrArg (fun x:DyR=>x.2.2.2) h) (by decide:(3:Int)≠0)
  · rw [h1] at h
    simp only [Prod.mk.injEq] at h
    obtain ⟨rfl,rfl,rfl,_⟩:=h
    refine ⟨hg,?_⟩
    show sgZ' (nD d.1 d.2.1 d.2.2)=_
    rw [nD_sgn,← hj]
    have hp:(0:Int)<((2^j:Nat):Int):=by have:=Nat.two_pow_pos j;omega
    generalize ((2^j:Nat):Int)=P at hp
    generalize zD d.1 d.2.1=x
    unfold sgZ'
    by_cases c:x<0
    · rw [if_pos c,if_pos (Int.mul_neg_of_neg_of_pos c hp)]
    · by_cases g:x=0
      · subst g;simp
      · have hx:0<x*P:=Int.mul_pos (by omega) hp
        rw [if_neg c,if_neg g,if_neg (by omega),if_neg (by omega)]
theorem cano_val {z e:Int} {d:Dy} (h:cano z e=(d.1,d.2.1,d.2.2,0)) (he : -65536≤e):nDD d=z*((2^(e+65536).toNat:Nat):Int):=by
  rcases cano_out z e with h1 | ⟨s,l,f,h1,hg,j,hj,hf⟩
  · rw [h1] at h
    exact absurd (congrArg (fun x:DyR=>x.2.2.2) h) (by decide:(3:Int)≠0)
  · rw [h1] at h
    simp only [Prod.mk.injEq] at h
    obtain ⟨rfl,rfl,rfl,_⟩:=h
    show zD d.1 d.2.1*((2^(d.2.2+65536).toNat:Nat):Int)=_
    by_cases g:z=0
    · have hp:(0:Int)<((2^j:Nat):Int):=by have:=Nat.two_pow_pos j;omega
      have:zD d.1 d.2.1=0:=by
        rcases Int.mul_eq_zero.1 (hj.trans g) with q | q
        · exact q
        · omega
      rw [this,g,Int.zero_mul,Int.zero_mul]
    · rw [hf g,← hj,Int.mul_assoc,← Int.natCast_mul,← Nat.pow_add]
      congr 3
      omega
theorem polyGo_t {low:Int} {B:Nat} (hB:B≤60000000) (hlo : -1000000≤low∧low≤1000000):∀ (cs:List Int) (k:Nat) (acc:List Dy),(∀ c∈cs,c.natAbs<2^B)→k+cs.length≤100 →
    ∃ u e,polyGo low cs k acc=some (u,e)∧((e=3∧u = [])∨(e=0∧∃ ds:List Dy,u=(acc++ds).reverse∧ds.length=cs.length∧∀ i c,cs[i]?=some c→∃ d,ds[i]?=some d∧cano c (((k+i:Nat):Int)*low)=(d.1,d.2.1,d.2.2,0)))
  | [],k,acc,_,_=>⟨_,_,rfl,.inr ⟨rfl,[],by simp,rfl,fun i c h=>by simp at h⟩⟩
  | c::cs,k,acc,hc,hk=>by
    have hk:k+cs.length+1≤100:=by simpa [Nat.add_assoc] using hk
    have hkl : -100000000≤(k:Int)*low∧(k:Int)*low≤100000000:=by
      have h1:(k:Int)*low≤100*1000000:=by
        refine Int.le_trans (Int.mul_le_mul_of_nonneg_left hlo.2 (by omega)) ?_
        omega
      have h2:(k:Int)*(-1000000)≤(k:Int)*low:=Int.mul_le_mul_of_nonneg_left hlo.1 (by omega)
      omega
    unfold polyGo
    rw [wrI (by omega) (by omega),told_t (hc c (List.mem_cons_self ..)) hB,Option.bind_some]
    rcases cano_code c ((k:Int)*low) with h | h
    · rw [h,cond_t (by decide)]
      exact ⟨_,_,rfl,.inl ⟨rfl,rfl⟩⟩
    · rw [h,cond_f (by decide)]
      obtain ⟨u,e,h1,h2⟩:=polyGo_t hB hlo cs (k+1) (acc ++ [((cano c ((k:Int)*low)).1,(cano c ((k:Int)*low)).2.1,(cano c ((k:Int)*low)).2.2.1)]) (fun x hx=>hc x (List.mem_cons_of_mem _ hx)) (by omega)
      refine ⟨u,e,h1,?_⟩
      rcases h2 with h2 | ⟨rfl,ds,rfl,h3,h4⟩
      · exact .inl h2
      · refine .inr ⟨rfl,_::ds,by rw [List.append_assoc];rfl,by simp [h3],fun i x hx=>?_⟩
        cases i with
        | zero=>
          have hx:c=x:=by simpa using hx
          subst hx
          refine ⟨_,rfl,?_⟩
          show cano c ((k:Int)*low)=((cano c ((k:Int)*low)).1,(cano c ((k:Int)*low)).2.1,(cano c ((k:Int)*low)).2.2.1,0)
          rw [← h]
        | succ i=>
          have hx:cs[i]?=some x:=by simpa using hx
          obtain ⟨d,d1,d2⟩:=h4 i x hx
          exact ⟨d,by simpa using d1,by rw [show k+(i+1)=k+1+i by omega];exact d2⟩
theorem ScOk.bd {n:Nat} {A:Nat→Nat→Int} {V:Mt} {low:Int} {ok:Bool} (h:ScOk n A V low ok):(∃ b,b≤200001∧Bd n V b) ∧ -65536≤low∧low≤300000:=by
  rcases h.2 with ⟨z,_,h1,h2⟩ | ⟨t,M,h1,h2,hM,_,_,e3,_⟩
  · refine ⟨⟨0,by omega,fun i j hi hj=>?_⟩,h1,by omega⟩
    rw [(z i j hi hj).2];decide
  · exact ⟨⟨M,by omega,fun i j hi hj=>blN_le.1 (e3 i j hi hj)⟩,by omega,by omega⟩
theorem poly_t {n:Nat} {l:List Dy} {V:Mt} {low:Int} {ok:Bool} (hS:SymD n l) (hn:n≤8) (hsc:scaledT n l (false,[],0)=some (V,low,ok)) (hk:ScOk n (aD n l (false,[],0)) V low ok) :
    (ok=false∧T_inertia_Poly (n:Int) (n:Int) l=some ([],3))∨(ok=true∧(T_inertia_Poly (n:Int) (n:Int) l=some ([],3)∨∃ u:List Dy,T_inertia_Poly (n:Int) (n:Int) l=some (u,0)∧u.length=n+1 ∧
      ∀ i,i≤n→∃ d,u[n-i]?=some d∧cano (cfI V n i) ((i:Int)*low)=(d.1,d.2.1,d.2.2,0))):=by
  obtain ⟨⟨b,hb0,hb⟩,hl1,hl2⟩:=hk.bd
  unfold T_inertia_Poly polyDo
  rw [hS.t,Option.bind_some,nT,hS.sq,cT,Int.toNat_natCast,hsc,Option.bind_some]
  cases ok with
  | false=>exact .inl ⟨rfl,rfl⟩
  | true=>
    refine .inr ⟨rfl,?_⟩
    obtain ⟨h1,h2⟩:=coef_t hn hb (by omega)
    dsimp only
    rw [nT,h1,Option.bind_some,cond_t (by simp;omega)]
    obtain ⟨B,hB⟩:∃ B:Nat,B=1+8*(b+17):=⟨_,rfl⟩
    obtain ⟨u,e,g1,g2⟩:=polyGo_t (B:=B) (low:=low) (by omega) (by omega) ((List.range (n+1)).map (cfI V n)) 0 [] (fun c hc=>by
      obtain ⟨q,hq,rfl⟩:=List.mem_map.1 hc
      exact h2 B hB q (by have:=List.mem_range.1 hq;omega)) (by simp;omega)
    rcases g2 with ⟨rfl,rfl⟩ | ⟨rfl,ds,rfl,g3,g4⟩
    · exact .inl g1
    · have hlen:ds.length=n+1:=by rw [g3];simp
      refine .inr ⟨_,g1,by simp [hlen],fun i hi=>?_⟩
      obtain ⟨d,d1,d2⟩:=g4 i (cfI V n i) (by rw [List.getElem?_map,List.getElem?_range (by omega)];rfl)
      rw [Nat.zero_add] at d2
      refine ⟨d,?_,d2⟩
      rw [List.nil_append,List.getElem?_reverse (by omega),hlen,show n+1-1-(n-i)=i by omega]
      exact d1
end Go.Eng
/-
  The law InertiaDescartes: its loops. No condition.
-/
set_option maxRecDepth 100000
set_option maxHeartbeats 4000000
namespace Go.Eng
open Go Go.Ine
theorem ScOk.symV {n:Nat} {A:Nat→Nat→Int} {V:Mt} {low:Int} {ok:Bool} (hA:∀ i j,i<n→j<n→A i j=A j i) (h:ScOk n A V low ok):∀ i j,ent V i j=ent V j i:=fun i j=>by
  obtain ⟨q,h⟩:=h
  by_cases c:i<n∧j<n
  · rcases h with ⟨z,_⟩ | ⟨t,M,_,_,_,e1,_⟩
    · rw [(z i j c.1 c.2).2,(z j i c.2 c.1).2]
    · exact pow_cancel ((e1 i j c.1 c.2).symm.trans ((hA i j c.1 c.2).trans (e1 j i c.2 c.1)))
  · rw [ent_out q c,ent_out q (fun d=>c ⟨d.2,d.1⟩)]
theorem sgR_int (z:Int):sgR (z:Rat)=sgZ' z:=by
  have h1:((z:Int):Rat)<0↔z<0:=Rat.intCast_lt_intCast (a:=z) (b:=0)
  have h2:((z:Int):Rat)=0↔z=0:=Rat.intCast_inj (a:=z) (b:=0)
  unfold sgR sgZ'
  by_cases c:z<0
  · rw [if_pos c,if_pos (h1.2 c)]
  · rw [if_neg c,if_neg (fun h=>c (h1.1 h))]
    by_cases g:z=0
    · rw [if_pos g,if_pos (h2.2 g)]
    · rw [if_neg g,if_neg (fun h=>g (h2.1 h))]
theorem dsign_t {d:Dy} (h:GdD d):T_w16_sign d.1 d.2.1 d.2.2=some (sgZ' (nDD d)):=by
  unfold T_w16_sign
  rw [sign_gd h];rfl
def LowAt (s:Nat→Int) (k:Nat) (low:Int):Prop:=(low = -1∧∀ j,j<k→s j=0)∨∃ f:Nat,f<k∧low=f∧s f≠0∧∀ j,j<f→s j=0
theorem scan_cnt (s:Nat→Int):∀ k,(scan s k).2≤k
  | 0=>Nat.le_refl _
  | k+1=>by
    have:=scan_cnt s k
    unfold scan
    split
    · omega
    · dsimp only;split<;>omega
theorem desc_loop {n:Nat} {u:List Dy} {s:Nat→Int} (hn:n≤100) (hu:∀ k,k≤n→∃ d,u[k]?=some d∧T_w16_sign d.1 d.2.1 d.2.2=some (s k)) :
    ∃ low,iter (T_w16_InertiaDescartes_b2 (n:Int) u) FU (0, -1,0,0)=some (((scan s (n+1)).2:Int),low)∧LowAt s (n+1) low:=by
  obtain ⟨o,ho,low,rfl,hl⟩:=iter_ex (b:=T_w16_InertiaDescartes_b2 (n:Int) u) (fun k (st:Int×Int×Int×Int)=>st.2.2.2=(k:Int)∧st.1=((scan s k).2:Int)∧st.2.2.1=(scan s k).1∧LowAt s k st.2.1)
    (fun (o:Int×Int)=>∃ low,o=(((scan s (n+1)).2:Int),low)∧LowAt s (n+1) low) (n+1) (by rw [FU_eq];omega) (s0:=(0, -1,0,0)) (fun k st hk hs=>by
      obtain ⟨a,b,c,d⟩:=st
      obtain ⟨h1,h2,h3,h4⟩:=hs
      dsimp only at h1 h2 h3 h4
      subst h1 h2 h3
      unfold T_w16_InertiaDescartes_b2
      dsimp only
      by_cases hk2:k≤n
      · obtain ⟨x,x1,x2⟩:=hu k hk2
        have hat:atI u (k:Int)=some x:=by
          unfold atI
          rw [if_pos (by omega),Int.toNat_natCast,x1]
        have hcnt:=scan_cnt s k
        rw [cond_t (by simp;omega),hat,Option.bind_some,x2,Option.bind_some]
        refine .inr ⟨by omega,?_⟩
        by_cases z:s k=0
        · rw [z]
          rw [cond_f (show ((0:Int) != 0)=false from rfl),Option.bind_some,cond_f (show ((0:Int) != 0)=false from rfl),Option.bind_some,cond_f (show ((0:Int) != 0)=false from rfl),Option.bind_some,Option.bind_some,wrU (by omega)]
          refine ⟨_,rfl,rfl,?_,?_,?_⟩
          · show ((scan s k).2:Int)=((scan s (k+1)).2:Int)
            rw [show scan s (k+1)=scan s k by
                conv=>lhs;unfold scan
                rw [if_pos z]]
          · show (scan s k).1=(scan s (k+1)).1
            rw [show scan s (k+1)=scan s k by
                conv=>lhs;unfold scan
                rw [if_pos z]]
          · rcases h4 with ⟨e,h⟩ | ⟨f,f1,f2,f3,f4⟩
            · exact .inl ⟨e,fun j hj=>by
                by_cases q:j=k
                · rw [q];exact z
                · exact h j (by omega)⟩
            · exact .inr ⟨f,by omega,f2,f3,f4⟩
        · have hz:(s k != 0)=true:=by simpa using z
          have esc:scan s (k+1)=(s k,if (scan s k).1≠0∧s k≠(scan s k).1 then (scan s k).2+1 else (scan s k).2):=by
            conv=>lhs;unfold scan
            rw [if_neg z]
          have elow:∃ low',(cond (decide (b<0)) (some (k:Int)) (some b))=some low'∧LowAt s (k+1) low':=by
            rcases h4 with ⟨e,h⟩ | ⟨f,f1,f2,f3,f4⟩
            · rw [e]
              exact ⟨_,rfl,.inr ⟨k,by omega,rfl,z,h⟩⟩
            · rw [f2,cond_f (by simp)]
              exact ⟨_,rfl,.inr ⟨f,by omega,rfl,f3,f4⟩⟩
          obtain ⟨low',l1,l2⟩:=elow
          rw [cond_t hz,l1,Option.bind_some,cond_t hz]
          by_cases g:(scan s k).1=0
          · rw [cond_f (by rw [g];rfl),Option.bind_some,cond_t hz,Option.bind_some,Option.bind_some,wrU (by omega)]
            refine ⟨_,rfl,rfl,?_,?_,l2⟩
            · show ((scan s k).2:Int)=((scan s (k+1)).2:Int)
              rw [esc,if_neg (fun q=>q.1 g)]
            · show s k=(scan s (k+1)).1
              rw [esc]
          · rw [cond_t (by simpa using g)]
            by_cases g2:s k=(scan s k).1
            · rw [cond_f (by simpa using g2),Option.bind_some,cond_t hz,Option.bind_some,Option.bind_some,wrU (by omega)]
              refine ⟨_,rfl,rfl,?_,?_,l2⟩
              · show ((scan s k).2:Int)=((scan s (k+1)).2:Int)
                rw [esc,if_neg (fun q=>q.2 g2)]
              · show s k=(scan s (k+1)).1
                rw [esc]
            · rw [cond_t (by simpa using g2),Option.bind_some,cond_t hz,Option.bind_some,Option.bind_some,wrU (by omega),wrU (by omega)]
              refine ⟨_,rfl,rfl,?_,?_,l2⟩
              · show (((scan s k).2+1:Nat):Int)=((scan s (k+1)).2:Int)
                rw [esc,if_pos ⟨g,g2⟩]
              · show s k=(scan s (k+1)).1
                rw [esc]
      · rw [cond_f (by simp;omega)]
        obtain rfl:k=n+1:=by omega
        exact .inl ⟨_,rfl,_,rfl,h4⟩) ⟨rfl,rfl,rfl,.inl ⟨rfl,fun j hj=>by omega⟩⟩
  exact ⟨low,ho,hl⟩
theorem diag_loop2 {n:Nat} {l:List Dy} (hS:SymD n l) {s0:Bool} {l0:List Int} {e0:Int} (h0:GdD (s0,l0,e0)) (hv:nDD (s0,l0,e0)=0) :
    ∃ o,iter (T_w16_InertiaDescartes_b4 (n:Int) l) FU (0,s0,e0,l0)=some o∧(o = .inr true∨∃ d:Dy,o = .inl (d.1,d.2.2,d.2.1)∧GdD d∧nDD d=sI n fun i=>nDD (l.getD (i*n+i) (false,[],0))):=by
  have hn:=hS.le
  have hnn:n*n≤48*48:=Nat.mul_le_mul hn hn
  have hl:=hS.len
  refine iter_ex (b:=T_w16_InertiaDescartes_b4 (n:Int) l) (fun k (st:Int×Bool×Int×List Int)=>st.1=(k:Int)∧GdD (st.2.1,st.2.2.2,st.2.2.1)∧nDD (st.2.1,st.2.2.2,st.2.2.1)=sI k fun i=>nDD (l.getD (i*n+i) (false,[],0)))
    (fun (o:(Bool×Int×List Int)⊕Bool)=>o = .inr true∨∃ d:Dy,o = .inl (d.1,d.2.2,d.2.1)∧GdD d∧nDD d=sI n fun i=>nDD (l.getD (i*n+i) (false,[],0))) n (by rw [FU_eq];omega) (fun k st hk hs=>?_) ⟨rfl,h0,hv⟩
  obtain ⟨a,s,e,m⟩:=st
  obtain ⟨h1,h2,h3⟩:=hs
  dsimp only at h1 h2 h3
  subst h1
  unfold T_w16_InertiaDescartes_b4
  dsimp only
  by_cases hk2:k<n
  · have hix:k*n+k<n*n:=idxL hk2 hk2
    have hml:l.getD (k*n+k) (false,[],0)∈l:=by
      rw [List.getD_eq_getElem?_getD,List.getElem?_eq_getElem (by omega)];exact List.getElem_mem _
    rw [cond_t (by simp;omega),wrIdx hk2 hk2 (by omega),at_getD (false,[],0) (by omega),Option.bind_some,dadd_t h2 (hS.gd _ hml),Option.bind_some]
    rcases cano_cases (nD s m e+nD (l.getD (k*n+k) (false,[],0)).1 (l.getD (k*n+k) (false,[],0)).2.1 (l.getD (k*n+k) (false,[],0)).2.2) (-65536) with ⟨s',l',f',h,_⟩ | ⟨s',l',f',h,hg⟩
    · rw [h]
      dsimp only
      rw [cond_t (by decide),awake16]
      exact .inl ⟨_,rfl,.inl rfl⟩
    · rw [h]
      dsimp only
      rw [cond_f (by decide),wrU (by omega)]
      refine .inr ⟨hk2,_,rfl,rfl,hg,?_⟩
      have:=(cano_num (k:=0) (s:=s') (l:=l') (f:=f') (by simpa using h)).2
      have e2:nD s' l' f'=nD s m e+nD (l.getD (k*n+k) (false,[],0)).1 (l.getD (k*n+k) (false,[],0)).2.1 (l.getD (k*n+k) (false,[],0)).2.2:=by simpa using this
      show nD s' l' f'=sI k (fun i=>nDD (l.getD (i*n+i) (false,[],0)))+nDD (l.getD (k*n+k) (false,[],0))
      rw [e2,← h3]
  · rw [cond_f (by simp;omega)]
    obtain rfl:k=n:=by omega
    exact .inl ⟨_,rfl,.inr ⟨(s,m,e),rfl,h2,h3⟩⟩
theorem sameDs_t {l:List Dy} (hl:∀ d∈l,d.2.1.length≤4294967296) (hn:l.length≤4294967296):T_k_SameDyads l l=some true:=by
  unfold T_k_SameDyads
  rw [Option.bind_some,Option.bind_some,cond_f (by simp)]
  have:=iter_nat (b:=T_k_SameDyads_b2 l l) (fun i=>((i:Nat):Int)) (o:=(.inl ():Unit⊕Bool)) l.length (by rw [FU_eq];omega) (fun i hi=>by
    unfold T_k_SameDyads_b2
    dsimp only
    rw [Option.bind_some,cond_t (by simp;omega),at_nat hi,Option.bind_some,Option.bind_some,dyad_same (hl _ (List.getElem_mem hi)),Option.bind_some,cond_f (by simp),wrU (by omega)]) (by
    unfold T_k_SameDyads_b2
    dsimp only
    rw [Option.bind_some,cond_f (by simp)])
  have this:iter (T_k_SameDyads_b2 l l) FU 0=some (.inl ()):=this
  rw [this];rfl
theorem nD_same {d e:Dy} (hd:GdD d) (he:GdD e) (h:nDD d=nDD e):d=e:=by
  have a:=nD_cano hd
  have b:=nD_cano he
  have h:nD d.1 d.2.1 d.2.2=nD e.1 e.2.1 e.2.2:=h
  rw [h,b] at a
  simp only [Prod.mk.injEq] at a
  obtain ⟨a1,a2,a3,_⟩:=a
  exact Prod.ext a1.symm (Prod.ext a2.symm a3.symm)
theorem of1_t:T_w16_of 1 [1]=some ((1:Int),(1:Int),([(false,([1]:List Int),(0:Int))]:List Dy)):=by rfl
theorem cf_zero (V:Mt) (n:Nat):cfI V n 0=1:=by
  have:=cf_c V n 0
  rw [ber_zero] at this
  exact Rat.intCast_inj.1 this
theorem cf_one (V:Mt) (n:Nat):cfI V n 1 = - sI n fun i=>ent V i i:=by
  have h:=(ber_N (A:=eR V) n).step rfl 0
  have h1:((0+1:Nat):Rat)=1:=rfl
  have e:(sm (0+1) fun i=>ber (eR V) n i*tr (eR V) n (0+1-i))=sm n fun i=>eR V i i:=by
    show 0+ber (eR V) n 0*tr (eR V) n 1=_
    rw [ber_zero,Rat.zero_add,Rat.one_mul]
    show (sm n fun i=>Go.Ine.pw (eR V) n 1 i i)=_
    exact sm_congr fun i hi=>del_r _ hi
  rw [h1,Rat.one_mul,e,← cf_c] at h
  have h2:((cfI V n 1:Int):Rat)=((- sI n (fun i=>ent V i i):Int):Rat):=by
    rw [h,Rat.intCast_neg,sI_cast];rfl
  exact Rat.intCast_inj.1 h2
theorem sI_mul (f:Nat→Int) (c:Int):∀ n,(sI n fun i=>f i*c)=sI n f*c
  | 0=>by unfold sI;rw [Int.zero_mul]
  | n+1=>by unfold sI;rw [sI_mul f c n,Int.add_mul]
end Go.Eng
/-
  The law InertiaDescartes is true. No condition.
-/
set_option maxRecDepth 100000
set_option maxHeartbeats 4000000
namespace Go.Eng
open Go Go.Ine
theorem desc16 {r c:Int} {l:List Dy} (hl:LdL l) (hn:l.length≤1048576):T_w16_InertiaDescartes r c l=some true:=by
  unfold T_w16_InertiaDescartes
  obtain ⟨g,hg,hg2⟩:=great_t (r:=r) (c:=c) (l:=l) (by omega)
  rw [hg,Option.bind_some]
  cases g with
  | true=>rw [cT,awake16];rfl
  | false=>
  rw [cF]
  obtain ⟨s,hs,hs2⟩:=symI_t (r:=r) (c:=c) hl (by omega)
  cases s with
  | false=>
    have h1:T_inertia_Signs r c l=some (0,0,0,4):=by
      unfold T_inertia_Signs signsDo
      rw [hs];rfl
    have h2:T_inertia_Poly r c l=some ([],4):=by
      unfold T_inertia_Poly polyDo
      rw [hs];rfl
    rw [h1,Option.bind_some];dsimp only
    rw [h2,Option.bind_some];dsimp only
    rw [hs,Option.bind_some,cond_t (by rfl),cond_t (by decide),cond_t (by decide),cond_t (by decide),Option.bind_some,cond_t (by decide),awake16];rfl
  | true=>
  obtain ⟨n,rfl,rfl,hS⟩:=hs2.1 rfl
  have hn8:n≤8:=by have:=(hg2 rfl).1;omega
  obtain ⟨V,low,ok,sc,sk,hsg⟩:=signs_t hS hn8
  have hpo:=poly_t hS hn8 sc sk
  rcases hsg with ⟨rfl,h1⟩ | ⟨rfl,B,T,Ab,g1,g2,_,h1⟩
  · rcases hpo with ⟨_,h2⟩ | ⟨c,_⟩
    · rw [h1,Option.bind_some];dsimp only
      rw [h2,Option.bind_some];dsimp only
      rw [hs,Option.bind_some,cond_f (by rfl),cond_f (by decide),Option.bind_some,cT,cond_t (by decide),cond_t (by decide),cond_t (by decide),Option.bind_some,cond_t (by decide),awake16];rfl
    · cases c
  rcases hpo with ⟨c,_⟩ | ⟨_,h2 | ⟨u,h2,hul,hu⟩⟩
  · cases c
  · rw [h1,Option.bind_some];dsimp only
    rw [h2,Option.bind_some];dsimp only
    rw [hs,Option.bind_some,cond_f (by rfl),cond_t (by decide),Option.bind_some,cond_t (by decide),cond_t (by decide),cond_f (by decide),Option.bind_some,cond_t (by decide),awake16];rfl
  · -- the coefficients are told
    have hsy:=sk.symV (hS.aD (false,[],0))
    obtain ⟨B',T',Ab',e1,_,hsig⟩:=signsT_sig sk.1 hsy g1
    obtain ⟨eB,eT,eA⟩:B'=B∧T'=T∧Ab'=Ab:=by
      simp only [Prod.mk.injEq] at e1
      omega
    subst eB eT eA
    have hsig:Sig n (eR V) B' Ab':=hsig
    have hsR:∀ i j,eR V i j=eR V j i:=fun i j=>by unfold eR;rw [hsy i j]
    obtain ⟨d1,d2,d3⟩:=desc_low hsR hsig
    have hle:=sig_le hsig
    generalize hsdef:(fun k=>sgR (ber (eR V) n (n-k)))=s at d1
    have hsv:∀ k,s k=sgR (ber (eR V) n (n-k)):=fun k=>by rw [← hsdef]
    obtain ⟨low',q1,q2⟩:=desc_loop (n:=n) (u:=u) (s:=s) (by omega) fun k hk=>by
      obtain ⟨d,x1,x2⟩:=hu (n-k) (by omega)
      rw [show n-(n-k)=k by omega] at x1
      obtain ⟨x3,x4⟩:=cano_sg x2
      refine ⟨d,x1,?_⟩
      rw [dsign_t x3,x4,hsv,← cf_c,sgR_int]
    have hlow:low'=(T':Int):=by
      have hne:s (n-(Ab'+B'))≠0:=by
        rw [hsv,show n-(n-(Ab'+B'))=Ab'+B' by omega]
        exact fun c=>d2 (sgR_zero.1 c)
      have hz:∀ j,j<n-(Ab'+B')→s j=0:=fun j hj=>by
        rw [hsv]
        exact sgR_zero.2 (d3 (n-j) (by omega))
      rcases q2 with ⟨_,h⟩ | ⟨f,f1,f2,f3,f4⟩
      · exact absurd (h _ (by omega)) hne
      · have a1 : ¬ f<n-(Ab'+B'):=fun c=>f3 (hz f c)
        have a2 : ¬ n-(Ab'+B')<f:=fun c=>hne (f4 _ c)
        omega
    rw [h1,Option.bind_some];dsimp only
    rw [h2,Option.bind_some];dsimp only
    rw [hs,Option.bind_some,cond_f (by rfl),cond_t (by decide),Option.bind_some,cond_f (by decide),Option.bind_some,wrU (by omega),hul,cond_t (by simp),Option.bind_some]
    -- the last of them
    obtain ⟨d0,y1,y2⟩:=hu 0 (Nat.zero_le _)
    rw [Nat.sub_zero] at y1
    have hd0:d0=(false,[1],0):=by
      have hc:cano 1 0=(false,[1],0,0):=cano_gd (s:=false) (l:=[1]) (e:=0) (by
        have h1:([1]:List Int)=LW 1:=by decide +kernel
        exact .inr ⟨1,by decide,h1,by decide,by decide,by decide +kernel⟩)
      rw [cf_zero] at y2
      have e0:((0:Nat):Int)*low=0:=by simp
      rw [e0,hc] at y2
      simp only [Prod.mk.injEq] at y2
      exact Prod.ext y2.1.symm (Prod.ext y2.2.1.symm y2.2.2.1.symm)
    have hsub0:subL u (n:Int) ((n+1:Nat):Int)=some [(false,[1],0)]:=by
      rw [sub_nat (by omega) (by omega),show n+1-n=1 by omega]
      obtain ⟨hk,e⟩:=List.getElem?_eq_some_iff.1 y1
      rw [List.drop_eq_getElem_cons hk,e,hd0];rfl
    rw [hsub0,Option.bind_some,Option.bind_some,of1_t,Option.bind_some];dsimp only
    rw [sameDs_t (by intro d hd;rw [List.mem_singleton.1 hd];decide) (by decide),Option.bind_some,cond_t (by rfl)]
    have hsum:IntKind.i64.wrap (IntKind.i64.wrap ((B':Int)+(T':Int))+(Ab':Int))=(n:Int):=by
      rw [wrAdd (by omega),wrAdd (by omega)];omega
    rw [hsum,Option.bind_some,cond_f (by simp),q1,Option.bind_some]
    dsimp only
    rw [d1,hlow,cond_t (by simp),Option.bind_some,cond_f (by simp)]
    refine eq_cond (fun _=>by rw [awake16];rfl) (fun hn0=>?_)
    have hn1:0<n:=by
      rcases Nat.eq_zero_or_pos n with c | c
      · subst c;simp at hn0
      · exact c
    have hi0:T_dyad_Int 0=some (false,[],0):=by decide +kernel
    rw [hi0,Option.bind_some]
    dsimp only
    obtain ⟨o,ho,hO⟩:=diag_loop2 hS (s0:=false) (l0:=[]) (e0:=0) (.inl ⟨rfl,rfl,rfl⟩) nDD_nil
    rw [ho,Option.bind_some]
    rcases hO with rfl | ⟨d,rfl,hd,hv⟩
    · rfl
    · dsimp only
      obtain ⟨s',m1,m2,m3⟩:=neg_gd hd
      rw [m1,Option.bind_some]
      dsimp only
      rw [cond_t (by decide)]
      obtain ⟨d',z1,z2⟩:=hu 1 hn1
      have hlo:=sk.bd.2
      rw [show ((1:Nat):Int)*low=low by simp] at z2
      have hdv:=cano_val z2 hlo.1
      have hback:(s',d.2.1,d.2.2)=d':=by
        refine nD_same m2 (cano_sg z2).1 ?_
        show nD s' d.2.1 d.2.2=nDD d'
        rw [m3,hdv,cf_one,Int.neg_mul,← sI_mul]
        have:nD d.1 d.2.1 d.2.2=sI n fun i=>nDD (l.getD (i*n+i) (false,[],0)):=hv
        rw [this]
        congr 1
        refine sI_congr fun i hi=>?_
        have ha:aD n l (false,[],0) i i=nDD (l.getD (i*n+i) (false,[],0)):=by
          unfold aD
          rw [nDD_nil,if_pos rfl,Int.sub_zero]
        rw [← ha]
        rcases sk.2 with ⟨w,_⟩ | ⟨t,M,w1,_,_,w2,_⟩
        · rw [(w i i hi hi).1,(w i i hi hi).2,Int.zero_mul]
        · rw [w2 i i hi hi,w1,Int.toNat_natCast]
      have hsub1:subL u (IntKind.i64.wrap ((n:Int)-1)) (n:Int)=some [d']:=by
        have e:IntKind.i64.wrap ((n:Int)-1)=((n-1:Nat):Int):=by rw [wrI (by omega) (by omega)];omega
        rw [e,sub_nat (by omega) (by omega),show n-(n-1)=1 by omega]
        obtain ⟨hk,e⟩:=List.getElem?_eq_some_iff.1 z1
        rw [List.drop_eq_getElem_cons hk,e];rfl
      rw [hsub1,Option.bind_some,Option.bind_some,hback,sameDs_t (by
        intro x hx
        rw [List.mem_singleton.1 hx]
        have:=(cano_sg z2).1.ld.2.1
        omega) (by simp),Option.bind_some,cT,awake16];rfl
section
variable {N:Nums} {P:Program} (H:AllOk N P)
include H
theorem desc16_f {r c:Int} {a:Option Addr} {n cc:Nat} {l:List Dy} {hh:List Hd} {w:World} (hD:rdA (dyC l hh) a (n*3) (cc*3) w) (hl:l.length=n) (hl2:hh.length=n)
    (hE:∀ i,i<n→∃ d g,l[i]?=some d∧hh[i]?=some g∧rdA (d.2.1.map (Value.int .u64)) g.1 g.2.1 g.2.2 w) (hW:∀ d∈l,(∀ y∈d.2.1,(Lit.int .u64 y).wf=true)∧d.2.1.length≤1048576) (kn:n≤1048576) :
    CallsX P N.f_w16_InertiaDescartes #[.agg #[.int .i64 r,.int .i64 c,.slice a n cc]] w fun v w'=>v = .bool true∧∃ M,St w w' M:=by
  obtain ⟨M,m1,m2,m3,_⟩:=items_dyads (l:=l) (hh:=hh) (by omega) (by rw [hl];exact hE) (Ho.start w) own_nil
  have hS:=m1.arg m2 hD
  have lw:∀ {l:List Int},(∀ y∈l,(Lit.int .u64 y).wf=true)→Ld l:=fun h y hy=>by
    have:=h y hy
    simp [Lit.wf,IntKind.min,IntKind.max,IntKind.signed,IntKind.bits] at this
    omega
  exact wk_w16_InertiaDescartes H hS (Ent.rd mp0) (m3.mono tl1) (desc16 (fun d hd=>⟨lw (hW d hd).1,by have:=(hW d hd).2;omega⟩) (by omega)) fun w1 h=>⟨rfl,h.some_old⟩
end
end Go.Eng
