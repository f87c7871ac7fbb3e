/-
  Dyads on the plain side: limbs, whole numbers, the form that is made. No condition.
-/
import Derived.Test.YtlnelldekejadaaGreatTp
import Derived.Test.YtlnelldekejadaaGreatBw3
import Derived.Test.YtlnelldekejadaaGreatPl
set_option linter.all false
set_option maxRecDepth 100000
set_option maxHeartbeats 400000
set_option exponentiation.threshold 70000
open Go.IntKind (i64 u64)
open Option renaming bind_some→AA
open Int renaming natAbs_natCast→AB
open Nat renaming two_pow_pos→AC,pow_add→AE,mul_lt_mul_of_pos_right→AF,mul_ne_zero→AK,div_lt_iff_lt_mul→AL,pow_le_pow_right→AM,lt_of_lt_of_le→AP,lt_of_le_of_lt→AQ,mul_div_cancel→AR,mul_comm→AT,log2_lt→AU
open BitVec renaming ofInt→AD,ofInt_natCast→AO,toNat_ofNat→AS
open List renaming mem_cons_self→AG,getD_eq_getElem?_getD→AH,getElem?_eq_getElem→AI,length_cons→AJ,mem_cons_of_mem→AN,append_nil→AV
namespace Go.Eng
open Go
def lv:List Int→Nat
 | []=>0
 | x::l=>x.toNat+18446744073709551616*lv l
def Ld (l:List Int):Prop:=∀ x∈l,0≤x∧x<18446744073709551616
def LW (n:Nat):List Int:=if n=0 then [] else ((n%18446744073709551616:Nat):Int)::LW (n/18446744073709551616)
termination_by n
decreasing_by omega
theorem Am2:LW 0 = []:=by rw [LW];rfl
theorem Bb1 {n:Nat} (h:n≠0):LW n=((n%18446744073709551616:Nat):Int)::LW (n/18446744073709551616):=by rw [LW,if_neg h]
theorem Dv0 {p:Nat→Prop} (a:p 0) (h:∀ n,n≠0→p (n/18446744073709551616)→p n) (n:Nat):p n:=by
 induction n using Nat.strongRecOn with
 | ind n ih=>
   by_cases e:n=0
   · subst e;exact a
   · exact h n e (ih _ (by omega))
theorem At7 (n:Nat):lv (LW n)=n:=by
 induction n using Dv0 with
 | a=>rw [Am2];rfl
 | h n a ih=>rw [Bb1 a];unfold lv;rw [ih];simp;omega
theorem Ba7 (n:Nat):Ld (LW n):=by
 induction n using Dv0 with
 | a=>rw [Am2];intro x h;cases h
 | h n a ih=>
   rw [Bb1 a]
   intro x hx
   rcases List.mem_cons.1 hx with rfl | hx
   · omega
   · exact ih x hx
theorem Ct8 {n:Nat}:LW n = []↔n=0:=by
 constructor
 · intro h
   by_cases e:n=0
   · exact e
   · rw [Bb1 e] at h;cases h
 · rintro rfl;exact Am2
theorem Bn1 {n k:Nat} (h:n<2^(64*k)):(LW n).length≤k:=by
 induction k generalizing n with
 | zero=>
  have:n=0:=by simpa using h
  subst this;rw [Am2];simp
 | succ k ih=>
   by_cases e:n=0
   · subst e;rw [Am2];simp
   · rw [Bb1 e,AJ]
     have:n/18446744073709551616<2^(64*k):=by
      rw [AL (by omega)]
      rw [show 64*(k+1)=64*k+64 by omega,AE] at h
      exact h
     have:=ih this
     omega
theorem LW_len' {n k j:Nat} (h:n<2^k) (hk:k≤64*j):(LW n).length≤j:=Bn1 (AP h (AM (by omega) hk))
theorem Es1 (n:Nat):n<2^(64*(LW n).length):=by
 induction n using Dv0 with
 | a=>rw [Am2];simp
 | h n a ih=>
   rw [Bb1 a,AJ,show 64*((LW (n/18446744073709551616)).length+1)=64*(LW (n/18446744073709551616)).length+64 by omega,AE]
   have:=(AL (show 0<18446744073709551616 by omega)).1 ih
   exact this
theorem Bl1 {l:List Int} (h:Ld l):lv l<2^(64*l.length):=by
 induction l with
 | nil=>simp [lv]
 | cons x l ih=>
   have a:=h x (AG ..)
   have b:=ih fun y hy=>h y (AN _ hy)
   rw [AJ,show 64*(l.length+1)=64*l.length+64 by omega,AE]
   unfold lv
   generalize 2^(64*l.length)=P at *
   have e:(2:Nat)^64=18446744073709551616:=by decide
   rw [e]
   omega
theorem Ld.drop {l:List Int} (h:Ld l) (n:Nat):Ld (l.drop n):=fun y hy=>h y (List.mem_of_mem_drop hy)
theorem Gl7:∀ {l:List Int},Ld l→(l = []∨l.getD (l.length-1) 0≠0)→l=LW (lv l)
 | [],_,_=>by unfold lv;rw [Am2]
 | x::l,h,a=>by
   have g:=h x (AG ..)
   have c:Ld l:=fun y hy=>h y (AN _ hy)
   have hl:l = []∨l.getD (l.length-1) 0≠0:=by
    cases l with
    | nil=>exact .inl rfl
    | cons y m=>
      right
      rcases a with a | a
      · cases a
      · simpa using a
   have ih:=Gl7 c hl
   have hne:lv (x::l)≠0:=by
    unfold lv
    rcases a with a | a
    · cases a
    · cases l with
      | nil=>
        have:x≠0:=by simpa using a
        omega
      | cons y m=>
        have:lv (y::m)≠0:=fun e=>by rw [e,Am2] at ih;cases ih
        omega
   rw [Bb1 hne]
   have b:lv (x::l)=x.toNat+18446744073709551616*lv l:=rfl
   have d:lv (x::l)/18446744073709551616=lv l:=by rw [b];omega
   have f:((lv (x::l)%18446744073709551616:Nat):Int)=x:=by rw [b];omega
   rw [d,f,← ih]
theorem Ba3 {z:Int} {k:Nat} (h:z.natAbs<2^k) (hk:k≤34359738368):Bw8 z=some z:=by
 unfold Bw8
 by_cases a:z.natAbs=0
 · rw [a,if_pos (by decide)]
 · have:=(AU a).2 h
   rw [if_pos (by omega)]
theorem Fa5 (k:Nat):(2:Nat)^(k+64)=2^k*18446744073709551616:=AE 2 k 64
theorem Gh6 {n k:Nat} (hn:n<2^k) (hk:k≤34359738368):Av0 (n:Int)=some (LW n):=by
 have d:Bo3 (n:Int)=some (n:Int):=by unfold Bo3;rw [Ba3 (k:=k) (by simpa using hn) hk];rfl
 have f:Ak6 18446744073709551615=some 18446744073709551615:=by decide
 have len:(LW n).length≤536870912:=LW_len' hn (by omega)
 unfold Av0
 rw [d,AA,f,AA]
 obtain ⟨o,g,h⟩:=Ag0 (b:=Ap6 18446744073709551615) (fun i s=>∃ (a:Int) (m:Nat) (pre:List Int),s=(a,(m:Int),pre)∧pre++LW m=LW n∧pre.length=i∧m<2^k) (LW n).length (fun o=>o=LW n) (by rw [Af4];omega)
  (fun i s hi ⟨a,m,pre,hs,hp,hl,hm⟩=>by
   subst hs
   have c:m≠0:=by
    rintro rfl
    rw [Am2,AV] at hp
    rw [← hp] at hi
    omega
   have hpre:pre.length+1≤(LW n).length:=by omega
   have j:An3 (m:Int)=some 1:=by unfold An3;rw [if_neg (by omega),if_neg (by omega)]
   have l:Di3 (m:Int) 18446744073709551615=some ((m%18446744073709551616:Nat):Int):=by
    unfold Di3
    have:m &&& 18446744073709551615=m%2^64:=Nat.and_two_pow_sub_one_eq_mod m 64
    rw [if_pos ⟨by omega,by decide⟩,Ba3 (k:=k) (by simpa using hm) hk,Ba3 (z:=18446744073709551615) (k:=64) (by decide) (by omega)]
    simp only [AA,AB]
    rw [show (18446744073709551615:Int).natAbs=18446744073709551615 from rfl,this]
   have p:Aw0 ((m%18446744073709551616:Nat):Int)=some ((m%18446744073709551616:Nat):Int):=by unfold Aw0;rw [AB,Nat.mod_mod]
   have q:Bi2 (m:Int) 64=some ((m/18446744073709551616:Nat):Int):=by
    unfold Bi2
    rw [if_pos ⟨by omega,by decide,by decide⟩,Ba3 (k:=k) (by simpa using hm) hk]
    simp only [AA,AB];rfl
   refine ⟨(((m%18446744073709551616:Nat):Int),((m/18446744073709551616:Nat):Int),pre ++ [((m%18446744073709551616:Nat):Int)]),?_,_,_,_,rfl,?_,by simp;omega,AQ (Nat.div_le_self _ _) hm⟩
   · unfold Ap6
     dsimp only
     rw [j,AA,Ab0 (by decide),l,AA,p,AA,AA,Bb3 (by simp;omega),AA,q,AA]
   · rw [List.append_assoc,← hp,Bb1 c];rfl)
  (fun s ⟨a,m,pre,hs,hp,hl,hm⟩=>by
   subst hs
   have c:m=0:=by
    by_cases e:m=0
    · exact e
    · rw [← hp,Bb1 e] at hl
      simp at hl
   subst c
   rw [Am2,AV] at hp
   refine ⟨pre,?_,hp⟩
   unfold Ap6
   dsimp only
   rw [show An3 ((0:Nat):Int)=some 0 from rfl,AA,Ab1 (by decide)]) (s0:=(0,(n:Int),([]:List Int))) ⟨0,n,[],rfl,rfl,rfl,hn⟩
 rw [g,h];rfl
def sgN (s:Bool) (m:Nat):Int:=if s then -(m:Int) else (m:Int)
theorem Ei8 {s:Bool} {l:List Int} {e:Int} (h:Ld l) (hl:l.length≤536870000):Ai4 s l e=some (sgN s (lv l)):=by
 have key:Af5 (Am5 ((l.length:Nat):Int) l) FU (0,0)=some ((lv l:Nat):Int):=by
  have:=Ac7 (b:=Am5 ((l.length:Nat):Int) l) (fun i=>(((i:Nat):Int),((lv (l.drop (l.length-i)):Nat):Int))) (o:=((lv l:Nat):Int)) l.length (by rw [Af4];omega) (fun i hi=>by
   have hb:=Bl1 (h.drop (l.length-i))
   have hlen:(l.drop (l.length-i)).length=i:=by simp;omega
   rw [hlen] at hb
   have a:l.drop (l.length-(i+1))=l.getD (l.length-1-i) 0::l.drop (l.length-i):=by
    rw [List.drop_eq_getElem_cons (by omega),AH,AI (by omega)]
    congr 1
    · simp;congr 1;omega
    · congr 1;omega
   have hx:=h (l.getD (l.length-1-i) 0) (by rw [AH,AI (by omega)];exact List.getElem_mem _)
   generalize hA:lv (l.drop (l.length-i))=A at *
   have hlv:lv (l.drop (l.length-(i+1)))=(l.getD (l.length-1-i) 0).toNat+18446744073709551616*A:=by rw [a];unfold lv;rw [hA]
   generalize hX:l.getD (l.length-1-i) 0=x at *
   have hA2:A*18446744073709551616<2^(64*i+64):=by rw [Fa5];exact AF hb (by omega)
   have c:Bf5 ((A:Nat):Int) 64=some ((A*18446744073709551616:Nat):Int):=by
    unfold Bf5
    rw [if_pos ⟨by decide,by decide⟩,Ba3 (k:=64*i) (by simpa using hb) (by omega),AA]
    have:((A:Nat):Int)*((2^(64:Int).toNat:Nat):Int)=((A*18446744073709551616:Nat):Int):=by simp
    rw [this,Ba3 (k:=64*i+64) (by rw [AB];exact hA2) (by omega)]
   have d:Ak6 x=some x:=by unfold Ak6;rw [if_pos hx]
   have f:Ef0 ((A*18446744073709551616:Nat):Int) x=some ((lv (l.drop (l.length-(i+1))):Nat):Int):=by
    unfold Ef0
    have ho:A*18446744073709551616 ||| x.toNat=x.toNat+18446744073709551616*A:=by
     have:=Nat.two_pow_add_eq_or_of_lt (show x.toNat<2^64 by omega) A
     rw [AT A,show (18446744073709551616:Nat)=2^64 by decide,← this];omega
    rw [if_pos ⟨by omega,hx.1⟩,Ba3 (k:=64*i+64) (by rw [AB];exact hA2) (by omega),Ba3 (z:=x) (k:=64) (by omega) (by omega)]
    simp only [AA,AB]
    rw [show x.natAbs=x.toNat by omega,ho,hlv]
   unfold Am5
   dsimp only
   rw [Ab0 (by simp;omega),c,AA,AA]
   have ei:i64.wrap (i64.wrap (((l.length:Nat):Int)-1)-(i:Int))=((l.length-1-i:Nat):Int):=by
    rw [wrI (n:=((l.length:Nat):Int)-1) (by omega) (by omega),wrI (by omega) (by omega)];omega
   rw [ei,Ac1 0 (by omega),AA,hX,d,AA,f,AA,wrU (by omega)]) (by
   unfold Am5
   dsimp only
   rw [Ab1 (by simp),Nat.sub_self,List.drop_zero])
  have a:((lv (l.drop (l.length-0)):Nat):Int)=0:=by
   rw [Nat.sub_zero,List.drop_length];rfl
  rw [a] at this
  exact this
 have hb:=Bl1 h
 unfold Ai4
 rw [AA,key,AA]
 cases s with
 | false=>rfl
 | true=>
   rw [cT]
   unfold Cr3
   rw [Ba3 (k:=64*l.length) (by simpa using hb) (by omega)];rfl
theorem Cv8 (n j:Nat) (h:n≠0):tzN (n*2^j)=tzN n+j:=by
 induction j with
 | zero=>simp
 | succ j ih=>
   have e:n*2^(j+1)=n*2^j*2:=by rw [Nat.pow_succ,Nat.mul_assoc]
   have hp:=AC j
   have hne:n*2^j≠0:=AK h (by omega)
   rw [e,Er2 (by omega) (by omega),AR _ (by omega),ih];omega
theorem As4 (n j:Nat) (h:n≠0):blN (n*2^j)=blN n+j:=by
 have hp:=AC j
 have hne:n*2^j≠0:=AK h (by omega)
 have:(n*2^j).log2=n.log2+j:=by
  clear hne hp
  induction j with
  | zero=>simp
  | succ j ih=>
    have hp:=AC j
    have hne:n*2^j≠0:=AK h (by omega)
    rw [Nat.pow_succ,← Nat.mul_assoc,Nat.log2_def,if_pos (by omega),AR _ (by omega),ih];omega
 unfold blN
 rw [if_neg hne,if_neg h,this];omega
abbrev DyR:=Bool×List Int×Int×Int
def Gp7:DyR:=(false,[],0,3)
def nilD:DyR:=(false,[],0,0)
def Fp4 (s:Bool) (m:Nat) (e:Int):DyR:=if e < -65536∨65536<e∨16384<blN m then Gp7 else (s,LW m,e,0)
def Bm6 (z e:Int):DyR:=if z=0 then nilD else Fp4 (decide (z<0)) (z.natAbs/2^tzN z.natAbs) (e+(tzN z.natAbs:Int))
theorem De7 (z e:Int) (j:Nat):Bm6 (z*((2^j:Nat):Int)) (e-j)=Bm6 z e:=by
 have hp:(0:Int)<((2^j:Nat):Int):=by have:=AC j;omega
 unfold Bm6
 by_cases a:z=0
 · subst a;simp
 · have b:z*((2^j:Nat):Int)≠0:=Int.mul_ne_zero a (by omega)
   have ha:(z*((2^j:Nat):Int)).natAbs=z.natAbs*2^j:=by rw [Int.natAbs_mul,AB]
   have hn:z.natAbs≠0:=by omega
   have hs:decide (z*((2^j:Nat):Int)<0)=decide (z<0):=by
    apply decide_eq_decide.2
    constructor
    · intro h
      rcases Int.lt_or_le z 0 with c | c
      · exact c
      · have:=Int.mul_nonneg c (Int.le_of_lt hp);omega
    · intro h;exact Int.mul_neg_of_neg_of_pos h hp
   rw [if_neg a,if_neg b,ha,hs,Cv8 _ _ hn]
   have d:z.natAbs*2^j/2^(tzN z.natAbs+j)=z.natAbs/2^tzN z.natAbs:=by
    rw [AE,Nat.mul_div_mul_right _ _ (AC j)]
   rw [d]
   congr 1
   omega
theorem Gr3 {z e:Int} {k:Nat} (hz:z.natAbs<2^k) (hk:k≤34359738368):Be3 z e=some (Bm6 z e):=by
 unfold Be3 Bm6
 by_cases b:z=0
 · subst b
   rw [show An3 0=some 0 from rfl,if_pos rfl];rfl
 · have hn:z.natAbs≠0:=by omega
   obtain ⟨g,s,_⟩:=Bw7 hn
   have htl:=En0 hn
   have hbl:blN z.natAbs≤k:=by
    unfold blN
    rw [if_neg hn]
    exact (AU hn).2 hz
   have hbg:=Ba3 hz hk
   generalize ht:tzN z.natAbs=t at *
   have i:An3 z=some (if z<0 then -1 else 1):=by
    unfold An3
    by_cases c:z<0
    · rw [if_pos c,if_pos c]
    · rw [if_neg c,if_neg c,if_neg b]
   have j:Af2 z=some (t:Int):=by unfold Af2;rw [hbg,AA,ht]
   have l:Be1 z=some (blN z.natAbs:Int):=by unfold Be1;rw [hbg];rfl
   have m:Bo3 z=some (z.natAbs:Int):=by unfold Bo3;rw [hbg];rfl
   have wt:i64.wrap (t:Int)=(t:Int):=wrI (by omega) (by omega)
   have ut:u64.wrap (t:Int)=(t:Int):=Ap1 (by omega)
   have o:Bi2 (z.natAbs:Int) (t:Int)=some ((z.natAbs/2^t:Nat):Int):=by
    unfold Bi2
    rw [if_pos ⟨by omega,by omega,by omega⟩,Ba3 (k:=k) (by simpa using hz) hk]
    simp only [AA,AB,Int.toNat_natCast]
   have p:Av0 ((z.natAbs/2^t:Nat):Int)=some (LW (z.natAbs/2^t)):=Gh6 (AQ (Nat.div_le_self _ _) hz) hk
   have q:z.natAbs/2^t≠0:=by omega
   have hb:blN z.natAbs=blN (z.natAbs/2^t)+t:=by
    conv=>lhs;rw [g,AT]
    exact As4 _ _ q
   have ne:((if z<0 then (-1:Int) else 1)==0)=false:=by split<;>decide
   have r:decide ((if z<0 then (-1:Int) else 1)<0)=decide (z<0):=by
    by_cases c:z<0
    · simp [c]
    · simp [c]
   rw [if_neg b,i,AA,ne,cF,j,AA,wt,wrI (n := -65536-(t:Int)) (by omega) (by omega),l]
   unfold Fp4
   refine Ba5 (fun h=>?_) (fun h=>?_)
   · rw [if_pos (by simp at h;omega)];rfl
   · refine Ba5 (fun a=>?_) (fun a=>?_)
     · rw [if_pos (by simp at a;omega)];rfl
     · rw [wrI (n:=e+(t:Int)) (by simp at h a;omega) (by simp at h a;omega)]
       refine Ba5 (fun d=>?_) (fun d=>?_)
       · rw [if_pos (by simp at d;omega)];rfl
       · rw [AA,wrI (n:=(blN z.natAbs:Int)-(t:Int)) (by omega) (by omega)]
         simp only [decide_eq_false_iff_not] at h a d
         refine Ba5 (fun f=>?_) (fun f=>?_)
         · rw [if_pos (by simp at f;omega)];rfl
         · have hc : ¬ (e+(t:Int) < -65536∨65536<e+(t:Int)∨16384<blN (z.natAbs/2^t)):=by simp at f;omega
           rw [if_neg hc,AA,m,AA,ut,o,AA,p,AA,r]
end Go.Eng
/-
  Dyads on the plain side: which are right, their numbers, sums and products. No condition.
-/
namespace Go.Eng
open Go
def Gd (s:Bool) (l:List Int) (e:Int):Prop:=(l = []∧s=false∧e=0)∨∃ m,m%2=1∧l=LW m ∧ -65536≤e∧e≤65536∧blN m≤16384
theorem Ap3 {m k:Nat}:blN m≤k↔m<2^k:=by
 unfold blN
 by_cases h:m=0
 · subst h;simp;exact AC k
 · rw [if_neg h,← AU h];omega
theorem Gd.ld {s:Bool} {l:List Int} {e:Int} (h:Gd s l e):Ld l∧l.length≤256 ∧ -65536≤e∧e≤65536∧lv l<2^16384:=by
 rcases h with ⟨rfl,_,rfl⟩ | ⟨m,_,rfl,a,b,c⟩
 · refine ⟨fun x hx=>(by cases hx),by simp,by decide,by decide,?_⟩
   exact AC 16384
 · have:=Ap3.1 c
   refine ⟨Ba7 m,Bn1 (by simpa using this),a,b,by rw [At7];exact this⟩
theorem Gt3 {x:Int} (a:0≤x) (h:x<18446744073709551616):u64.wrap (AD u64.bits x &&& AD u64.bits 1).toNat=x%2:=by
 obtain ⟨n,rfl⟩:=Int.eq_ofNat_of_zero_le a
 have e:(AD u64.bits ((n:Nat):Int) &&& AD u64.bits 1).toNat=n%2:=by
  show (AD 64 ((n:Nat):Int) &&& AD 64 ((1:Nat):Int)).toNat=_
  rw [BitVec.toNat_and,AO,AO,AS,AS,Nat.mod_eq_of_lt (by omega)]
  exact Nat.and_one_is_mod n
 rw [e,Ap1 (by omega)];omega
theorem Ga8 {m:Nat} (h:m≠0):(LW m).getD ((LW m).length-1) 0≠0:=by
 induction m using Dv0 with
 | a=>exact absurd rfl h
 | h n a ih=>
   rw [Bb1 a]
   by_cases e:n/18446744073709551616=0
   · rw [e,Am2]
     simp;omega
   · have:=ih e
     have hl:(LW (n/18446744073709551616)) ≠ []:=fun c=>e (Ct8.1 c)
     obtain ⟨x,r,hx⟩:=List.exists_cons_of_ne_nil hl
     rw [hx] at this ⊢
     simpa using this
theorem Cm5 {s:Bool} {l:List Int} {e:Int} (hl:Ld l) (hn:l.length≤4294967296):∃ b,Ag6 s l e=some b∧(b=true↔Gd s l e):=by
 unfold Ag6
 rw [AA]
 cases l with
 | nil=>
   rw [Ab0 (by rfl)]
   cases s with
   | false=>
     refine ⟨e==0,rfl,?_⟩
     constructor
     · intro h;exact .inl ⟨rfl,rfl,by simpa using h⟩
     · rintro (⟨_,_,h⟩ | ⟨m,k,a,_⟩)
       · simpa using h
       · have:=Ct8.1 a.symm;omega
   | true=>
     refine ⟨false,rfl,?_⟩
     constructor
     · intro h;cases h
     · rintro (⟨_,h,_⟩ | ⟨m,k,a,_⟩)
       · cases h
       · have:=Ct8.1 a.symm;omega
 | cons x r=>
   have hne : ¬ ((x::r) = []):=by simp
   have none : ¬ Gd s (x::r) e→∃ b,some false=some b∧(b=true↔Gd s (x::r) e):=fun h=>⟨false,rfl,⟨fun c=>(by cases c),fun c=>absurd c h⟩⟩
   have hx:=hl x (AG ..)
   rw [Ab1 (by simp;omega)]
   have gdl:Gd s (x::r) e→(x::r).length≤256:=fun h=>h.ld.2.1
   have split:Gd s (x::r) e→(x::r).getD ((x::r).length-1) 0≠0∧x%2=1 ∧ -65536≤e∧e≤65536:=by
    rintro (⟨h,_⟩ | ⟨m,k,a,n,o,_⟩)
    · cases h
    · have hm:m≠0:=by omega
      refine ⟨by rw [a];exact Ga8 hm,?_,n,o⟩
      rw [Bb1 hm] at a
      have:x=((m%18446744073709551616:Nat):Int):=by injection a
      omega
   by_cases g:(x::r).length≤256
   · rw [Ab0 (by simp at g ⊢;omega),wrI (by omega) (by omega)]
     have ei:(((x::r).length:Nat):Int)-1=(((x::r).length-1:Nat):Int):=by simp
     rw [ei,Ac1 0 (by simp),AA]
     by_cases d:(x::r).getD ((x::r).length-1) 0=0
     · rw [Ab1 (by simpa using d)]
       exact none fun h=>(split h).1 d
     · rw [Ab0 (by simpa using d)]
       have i:atI (x::r) 0=some x:=rfl
       rw [i,AA,Gt3 hx.1 hx.2]
       by_cases j:x%2=1
       · rw [Ab0 (by simpa using j)]
         by_cases f : -65536≤e
         · rw [Ab0 (by simpa using f)]
           refine ⟨decide (e≤65536),rfl,?_⟩
           rw [decide_eq_true_iff]
           constructor
           · intro p
             have hw:=Gl7 hl (.inr d)
             refine .inr ⟨lv (x::r),?_,hw,f,p,?_⟩
             · have i:lv (x::r)=x.toNat+18446744073709551616*lv r:=rfl
               rw [i];omega
             · refine Ap3.2 (AP (Bl1 hl) (AM (by omega) (by omega)))
           · intro h;exact (split h).2.2.2
         · rw [Ab1 (by simpa using f)]
           exact none fun h=>f (split h).2.2.1
       · rw [Ab1 (by simpa using j)]
         exact none fun h=>j (split h).2.1
   · rw [Ab1 (by simp at g ⊢;omega)]
     exact none fun h=>g (gdl h)
theorem Dm7 {s:Bool} {l:List Int} {e:Int} (h:Gd s l e):Ag6 s l e=some true:=by
 obtain ⟨b,a,c⟩:=Cm5 (s:=s) (e:=e) h.ld.1 (by have:=h.ld.2.1;omega)
 rw [a,c.2 h]
def zD (s:Bool) (l:List Int):Int:=sgN s (lv l)
def nD (s:Bool) (l:List Int) (e:Int):Int:=zD s l*((2^(e+65536).toNat:Nat):Int)
theorem Ei0 (s:Bool) (m:Nat):(sgN s m).natAbs=m:=by unfold sgN;cases s<;>simp
theorem Cy1 (s:Bool) (l:List Int):(zD s l).natAbs=lv l:=Ei0 s _
theorem Gd.z_zero {s:Bool} {l:List Int} {e:Int} (h:Gd s l e):zD s l=0↔l = []:=by
 constructor
 · intro hz
   have hm:=Cy1 s l
   rw [hz] at hm
   rcases h with ⟨h,_⟩ | ⟨m,b,a,_⟩
   · exact h
   · rw [a,At7] at hm
     have:m=0:=hm.symm
     omega
 · rintro rfl;unfold zD sgN lv;cases s<;>rfl
theorem Ej4 (z e:Int):(Bm6 z e=Gp7)∨∃ s l f,Bm6 z e=(s,l,f,0)∧Gd s l f∧∃ j:Nat,zD s l*((2^j:Nat):Int)=z∧(z≠0→f=e+j):=by
 unfold Bm6
 by_cases a:z=0
 · rw [if_pos a]
   exact .inr ⟨false,[],0,rfl,.inl ⟨rfl,rfl,rfl⟩,0,by subst a;rfl,fun h=>absurd a h⟩
 · rw [if_neg a]
   unfold Fp4
   by_cases c:e+(tzN z.natAbs:Int) < -65536∨65536<e+(tzN z.natAbs:Int)∨16384<blN (z.natAbs/2^tzN z.natAbs)
   · rw [if_pos c];exact .inl rfl
   · rw [if_neg c]
     obtain ⟨g,i,_⟩:=Bw7 (n:=z.natAbs) (by omega)
     refine .inr ⟨_,_,_,rfl,.inr ⟨_,i,rfl,by omega,by omega,by omega⟩,tzN z.natAbs,?_,fun _=>rfl⟩
     have b:(z.natAbs/2^tzN z.natAbs)*2^tzN z.natAbs=z.natAbs:=by rw [AT];exact g.symm
     unfold zD sgN
     rw [At7]
     generalize z.natAbs/2^tzN z.natAbs=m at b
     generalize 2^tzN z.natAbs=P at b
     have d:((m:Nat):Int)*((P:Nat):Int)=(z.natAbs:Int):=by rw [← b];simp
     by_cases hz:z<0
     · rw [decide_eq_true hz,if_pos rfl,Int.neg_mul,d];omega
     · rw [decide_eq_false hz,if_neg (by simp),d];omega
theorem Em7 {s:Bool} {l:List Int} {e:Int} (h:Gd s l e):Ai4 s l e=some (zD s l):=Ei8 h.ld.1 (by have:=h.ld.2.1;omega)
theorem Cc7 {z:Int} {m k j:Nat} (h:z.natAbs=m) (hm:m<2^k):(z*((2^j:Nat):Int)).natAbs<2^(k+j):=by
 rw [Int.natAbs_mul,AB,h,AE]
 exact AF hm (AC j)
end Go.Eng
