
/-
  Dyads on the plain side: limbs, whole numbers, the form that is made. No condition.
-/
import Derived.Test.YtlnelldekejadaaTp
import Derived.Test.YtlnelldekejadaaBw3
import Derived.Test.YtlnelldekejadaaPl
set_option linter.all false
set_option maxRecDepth 100000
set_option maxHeartbeats 400000
set_option exponentiation.threshold 70000
namespace Go.Eng
open Go
def lv:List Int→Nat
  | []=>0
  | x::l=>x.toNat+18446744073709551616*lv l
def Ld (l:List Int):Prop:=∀ x∈l,0≤x∧x<18446744073709551616
def LW (n:Nat):List Int:=if n=0 then [] else ((n%18446744073709551616:Nat):Int)::LW (n/18446744073709551616)
termination_by n
decreasing_by omega
theorem LW_zero:LW 0 = []:=by rw [LW];rfl
theorem LW_pos {n:Nat} (h:n≠0):LW n=((n%18446744073709551616:Nat):Int)::LW (n/18446744073709551616):=by rw [LW,if_neg h]
theorem LW_ind {p:Nat→Prop} (h0:p 0) (h:∀ n,n≠0→p (n/18446744073709551616)→p n) (n:Nat):p n:=by
  induction n using Nat.strongRecOn with
  | ind n ih=>
    by_cases e:n=0
    · subst e;exact h0
    · exact h n e (ih _ (by omega))
theorem lv_LW (n:Nat):lv (LW n)=n:=by
  induction n using LW_ind with
  | h0=>rw [LW_zero];rfl
  | h n h0 ih=>rw [LW_pos h0];unfold lv;rw [ih];simp;omega
theorem LW_ld (n:Nat):Ld (LW n):=by
  induction n using LW_ind with
  | h0=>rw [LW_zero];intro x h;cases h
  | h n h0 ih=>
    rw [LW_pos h0]
    intro x hx
    rcases List.mem_cons.1 hx with rfl | hx
    · omega
    · exact ih x hx
theorem LW_nil {n:Nat}:LW n = []↔n=0:=by
  constructor
  · intro h
    by_cases e:n=0
    · exact e
    · rw [LW_pos e] at h;cases h
  · rintro rfl;exact LW_zero
theorem LW_len {n k:Nat} (h:n<2^(64*k)):(LW n).length≤k:=by
  induction k generalizing n with
  | zero=>
      have:n=0:=by simpa using h
      subst this;rw [LW_zero];simp
  | succ k ih=>
    by_cases e:n=0
    · subst e;rw [LW_zero];simp
    · rw [LW_pos e,List.length_cons]
      have:n/18446744073709551616<2^(64*k):=by
        rw [Nat.div_lt_iff_lt_mul (by omega)]
        rw [show 64*(k+1)=64*k+64 by omega,Nat.pow_add] at h
        exact h
      have:=ih this
      omega
theorem LW_len' {n k j:Nat} (h:n<2^k) (hk:k≤64*j):(LW n).length≤j:=LW_len (Nat.lt_of_lt_of_le h (Nat.pow_le_pow_right (by omega) hk))
theorem lv_lt {l:List Int} (h:Ld l):lv l<2^(64*l.length):=by
  induction l with
  | nil=>simp [lv]
  | cons x l ih=>
    have h1:=h x (List.mem_cons_self ..)
    have h2:=ih fun y hy=>h y (List.mem_cons_of_mem _ hy)
    rw [List.length_cons,show 64*(l.length+1)=64*l.length+64 by omega,Nat.pow_add]
    unfold lv
    generalize 2^(64*l.length)=P at *
    have e:(2:Nat)^64=18446744073709551616:=by decide
    rw [e]
    omega
theorem Ld.drop {l:List Int} (h:Ld l) (n:Nat):Ld (l.drop n):=fun y hy=>h y (List.mem_of_mem_drop hy)
theorem LW_of:∀ {l:List Int},Ld l→(l = []∨l.getD (l.length-1) 0≠0)→l=LW (lv l)
  | [],_,_=>by unfold lv;rw [LW_zero]
  | x::l,h,h0=>by
    have h1:=h x (List.mem_cons_self ..)
    have h2:Ld l:=fun y hy=>h y (List.mem_cons_of_mem _ hy)
    have hl:l = []∨l.getD (l.length-1) 0≠0:=by
      cases l with
      | nil=>exact .inl rfl
      | cons y m=>
        right
        rcases h0 with h0 | h0
        · cases h0
        · simpa using h0
    have ih:=LW_of h2 hl
    have hne:lv (x::l)≠0:=by
      unfold lv
      rcases h0 with h0 | h0
      · cases h0
      · cases l with
        | nil=>
          have:x≠0:=by simpa using h0
          omega
        | cons y m=>
          have:lv (y::m)≠0:=fun e=>by rw [e,LW_zero] at ih;cases ih
          omega
    rw [LW_pos hne]
    have e0:lv (x::l)=x.toNat+18446744073709551616*lv l:=rfl
    have e1:lv (x::l)/18446744073709551616=lv l:=by rw [e0];omega
    have e2:((lv (x::l)%18446744073709551616:Nat):Int)=x:=by rw [e0];omega
    rw [e1,e2,← ih]
theorem bgOk_b {z:Int} {k:Nat} (h:z.natAbs<2^k) (hk:k≤34359738368):bgOk z=some z:=by
  unfold bgOk
  by_cases h0:z.natAbs=0
  · rw [h0,if_pos (by decide)]
  · have:=(Nat.log2_lt h0).2 h
    rw [if_pos (by omega)]
theorem pow_add64 (k:Nat):(2:Nat)^(k+64)=2^k*18446744073709551616:=Nat.pow_add 2 k 64
theorem limbs_t {n k:Nat} (hn:n<2^k) (hk:k≤34359738368):T_dyad_limbs (n:Int)=some (LW n):=by
  have b0:bigAbs (n:Int)=some (n:Int):=by unfold bigAbs;rw [bgOk_b (k:=k) (by simpa using hn) hk];rfl
  have m0:bigSetUint64 18446744073709551615=some 18446744073709551615:=by decide
  have len:(LW n).length≤536870912:=LW_len' hn (by omega)
  unfold T_dyad_limbs
  rw [b0,Option.bind_some,m0,Option.bind_some]
  obtain ⟨o,h1,h2⟩:=iter_inv (b:=T_dyad_limbs_b2 18446744073709551615) (fun i s=>∃ (t4:Int) (m:Nat) (pre:List Int),s=(t4,(m:Int),pre)∧pre++LW m=LW n∧pre.length=i∧m<2^k) (LW n).length (fun o=>o=LW n) (by rw [FU_eq];omega)
    (fun i s hi ⟨t4,m,pre,hs,hp,hl,hm⟩=>by
      subst hs
      have hm0:m≠0:=by
        rintro rfl
        rw [LW_zero,List.append_nil] at hp
        rw [← hp] at hi
        omega
      have hpre:pre.length+1≤(LW n).length:=by omega
      have e1:bigSign (m:Int)=some 1:=by unfold bigSign;rw [if_neg (by omega),if_neg (by omega)]
      have e2:bigAnd (m:Int) 18446744073709551615=some ((m%18446744073709551616:Nat):Int):=by
        unfold bigAnd
        have:m &&& 18446744073709551615=m%2^64:=Nat.and_two_pow_sub_one_eq_mod m 64
        rw [if_pos ⟨by omega,by decide⟩,bgOk_b (k:=k) (by simpa using hm) hk,bgOk_b (z:=18446744073709551615) (k:=64) (by decide) (by omega)]
        simp only [Option.bind_some,Int.natAbs_natCast]
        rw [show (18446744073709551615:Int).natAbs=18446744073709551615 from rfl,this]
      have e3:bigUint64 ((m%18446744073709551616:Nat):Int)=some ((m%18446744073709551616:Nat):Int):=by unfold bigUint64;rw [Int.natAbs_natCast,Nat.mod_mod]
      have e4:bigRsh (m:Int) 64=some ((m/18446744073709551616:Nat):Int):=by
        unfold bigRsh
        rw [if_pos ⟨by omega,by decide,by decide⟩,bgOk_b (k:=k) (by simpa using hm) hk]
        simp only [Option.bind_some,Int.natAbs_natCast];rfl
      refine ⟨(((m%18446744073709551616:Nat):Int),((m/18446744073709551616:Nat):Int),pre ++ [((m%18446744073709551616:Nat):Int)]),?_,_,_,_,rfl,?_,by simp;omega,Nat.lt_of_le_of_lt (Nat.div_le_self _ _) hm⟩
      · unfold T_dyad_limbs_b2
        dsimp only
        rw [e1,Option.bind_some,cond_t (by decide),e2,Option.bind_some,e3,Option.bind_some,Option.bind_some,app_le (by simp;omega),Option.bind_some,e4,Option.bind_some]
      · rw [List.append_assoc,← hp,LW_pos hm0];rfl)
    (fun s ⟨t4,m,pre,hs,hp,hl,hm⟩=>by
      subst hs
      have hm0:m=0:=by
        by_cases e:m=0
        · exact e
        · rw [← hp,LW_pos e] at hl
          simp at hl
      subst hm0
      rw [LW_zero,List.append_nil] at hp
      refine ⟨pre,?_,hp⟩
      unfold T_dyad_limbs_b2
      dsimp only
      rw [show bigSign ((0:Nat):Int)=some 0 from rfl,Option.bind_some,cond_f (by decide)]) (s0:=(0,(n:Int),([]:List Int))) ⟨0,n,[],rfl,rfl,rfl,hn⟩
  rw [h1,h2];rfl
def sgN (s:Bool) (m:Nat):Int:=if s then -(m:Int) else (m:Int)
theorem whole_t {s:Bool} {l:List Int} {e:Int} (h:Ld l) (hl:l.length≤536870000):T_dyad_whole s l e=some (sgN s (lv l)):=by
  have key:iter (T_dyad_whole_b2 ((l.length:Nat):Int) l) FU (0,0)=some ((lv l:Nat):Int):=by
    have:=iter_nat (b:=T_dyad_whole_b2 ((l.length:Nat):Int) l) (fun i=>(((i:Nat):Int),((lv (l.drop (l.length-i)):Nat):Int))) (o:=((lv l:Nat):Int)) l.length (by rw [FU_eq];omega) (fun i hi=>by
      have hb:=lv_lt (h.drop (l.length-i))
      have hlen:(l.drop (l.length-i)).length=i:=by simp;omega
      rw [hlen] at hb
      have e0:l.drop (l.length-(i+1))=l.getD (l.length-1-i) 0::l.drop (l.length-i):=by
        rw [List.drop_eq_getElem_cons (by omega),List.getD_eq_getElem?_getD,List.getElem?_eq_getElem (by omega)]
        congr 1
        · simp;congr 1;omega
        · congr 1;omega
      have hx:=h (l.getD (l.length-1-i) 0) (by rw [List.getD_eq_getElem?_getD,List.getElem?_eq_getElem (by omega)];exact List.getElem_mem _)
      generalize hA:lv (l.drop (l.length-i))=A at *
      have hlv:lv (l.drop (l.length-(i+1)))=(l.getD (l.length-1-i) 0).toNat+18446744073709551616*A:=by rw [e0];unfold lv;rw [hA]
      generalize hX:l.getD (l.length-1-i) 0=x at *
      have hA2:A*18446744073709551616<2^(64*i+64):=by rw [pow_add64];exact Nat.mul_lt_mul_of_pos_right hb (by omega)
      have e1:bigLsh ((A:Nat):Int) 64=some ((A*18446744073709551616:Nat):Int):=by
        unfold bigLsh
        rw [if_pos ⟨by decide,by decide⟩,bgOk_b (k:=64*i) (by simpa using hb) (by omega),Option.bind_some]
        have:((A:Nat):Int)*((2^(64:Int).toNat:Nat):Int)=((A*18446744073709551616:Nat):Int):=by simp
        rw [this,bgOk_b (k:=64*i+64) (by rw [Int.natAbs_natCast];exact hA2) (by omega)]
      have e2:bigSetUint64 x=some x:=by unfold bigSetUint64;rw [if_pos hx]
      have e3:bigOr ((A*18446744073709551616:Nat):Int) x=some ((lv (l.drop (l.length-(i+1))):Nat):Int):=by
        unfold bigOr
        have ho:A*18446744073709551616 ||| x.toNat=x.toNat+18446744073709551616*A:=by
          have:=Nat.two_pow_add_eq_or_of_lt (show x.toNat<2^64 by omega) A
          rw [Nat.mul_comm A,show (18446744073709551616:Nat)=2^64 by decide,← this];omega
        rw [if_pos ⟨by omega,hx.1⟩,bgOk_b (k:=64*i+64) (by rw [Int.natAbs_natCast];exact hA2) (by omega),bgOk_b (z:=x) (k:=64) (by omega) (by omega)]
        simp only [Option.bind_some,Int.natAbs_natCast]
        rw [show x.natAbs=x.toNat by omega,ho,hlv]
      unfold T_dyad_whole_b2
      dsimp only
      rw [cond_t (by simp;omega),e1,Option.bind_some,Option.bind_some]
      have ei:IntKind.i64.wrap (IntKind.i64.wrap (((l.length:Nat):Int)-1)-(i:Int))=((l.length-1-i:Nat):Int):=by
        rw [wrI (n:=((l.length:Nat):Int)-1) (by omega) (by omega),wrI (by omega) (by omega)];omega
      rw [ei,at_getD 0 (by omega),Option.bind_some,hX,e2,Option.bind_some,e3,Option.bind_some,wrU (by omega)]) (by
      unfold T_dyad_whole_b2
      dsimp only
      rw [cond_f (by simp),Nat.sub_self,List.drop_zero])
    have e0:((lv (l.drop (l.length-0)):Nat):Int)=0:=by
      rw [Nat.sub_zero,List.drop_length];rfl
    rw [e0] at this
    exact this
  have hb:=lv_lt h
  unfold T_dyad_whole
  rw [Option.bind_some,key,Option.bind_some]
  cases s with
  | false=>rfl
  | true=>
    rw [cT]
    unfold bigNeg
    rw [bgOk_b (k:=64*l.length) (by simpa using hb) (by omega)];rfl
theorem tzN_shift (n j:Nat) (h:n≠0):tzN (n*2^j)=tzN n+j:=by
  induction j with
  | zero=>simp
  | succ j ih=>
    have e:n*2^(j+1)=n*2^j*2:=by rw [Nat.pow_succ,Nat.mul_assoc]
    have hp:=Nat.two_pow_pos j
    have hne:n*2^j≠0:=Nat.mul_ne_zero h (by omega)
    rw [e,tzN_even (by omega) (by omega),Nat.mul_div_cancel _ (by omega),ih];omega
theorem blN_shift (n j:Nat) (h:n≠0):blN (n*2^j)=blN n+j:=by
  have hp:=Nat.two_pow_pos j
  have hne:n*2^j≠0:=Nat.mul_ne_zero h (by omega)
  have:(n*2^j).log2=n.log2+j:=by
    clear hne hp
    induction j with
    | zero=>simp
    | succ j ih=>
      have hp:=Nat.two_pow_pos j
      have hne:n*2^j≠0:=Nat.mul_ne_zero h (by omega)
      rw [Nat.pow_succ,← Nat.mul_assoc,Nat.log2_def,if_pos (by omega),Nat.mul_div_cancel _ (by omega),ih];omega
  unfold blN
  rw [if_neg hne,if_neg h,this];omega
abbrev DyR:=Bool×List Int×Int×Int
def longD:DyR:=(false,[],0,3)
def nilD:DyR:=(false,[],0,0)
def canoO (s:Bool) (m:Nat) (e:Int):DyR:=if e < -65536∨65536<e∨16384<blN m then longD else (s,LW m,e,0)
def cano (z e:Int):DyR:=if z=0 then nilD else canoO (decide (z<0)) (z.natAbs/2^tzN z.natAbs) (e+(tzN z.natAbs:Int))
theorem cano_shift (z e:Int) (j:Nat):cano (z*((2^j:Nat):Int)) (e-j)=cano z e:=by
  have hp:(0:Int)<((2^j:Nat):Int):=by have:=Nat.two_pow_pos j;omega
  unfold cano
  by_cases h0:z=0
  · subst h0;simp
  · have h1:z*((2^j:Nat):Int)≠0:=Int.mul_ne_zero h0 (by omega)
    have ha:(z*((2^j:Nat):Int)).natAbs=z.natAbs*2^j:=by rw [Int.natAbs_mul,Int.natAbs_natCast]
    have hn:z.natAbs≠0:=by omega
    have hs:decide (z*((2^j:Nat):Int)<0)=decide (z<0):=by
      apply decide_eq_decide.2
      constructor
      · intro h
        rcases Int.lt_or_le z 0 with c | c
        · exact c
        · have:=Int.mul_nonneg c (Int.le_of_lt hp);omega
      · intro h;exact Int.mul_neg_of_neg_of_pos h hp
    rw [if_neg h0,if_neg h1,ha,hs,tzN_shift _ _ hn]
    have e1:z.natAbs*2^j/2^(tzN z.natAbs+j)=z.natAbs/2^tzN z.natAbs:=by
      rw [Nat.pow_add,Nat.mul_div_mul_right _ _ (Nat.two_pow_pos j)]
    rw [e1]
    congr 1
    omega
theorem made_t {z e:Int} {k:Nat} (hz:z.natAbs<2^k) (hk:k≤34359738368):T_dyad_made z e=some (cano z e):=by
  unfold T_dyad_made cano
  by_cases h0:z=0
  · subst h0
    rw [show bigSign 0=some 0 from rfl,if_pos rfl];rfl
  · have hn:z.natAbs≠0:=by omega
    obtain ⟨k1,k2,_⟩:=tzN_spec hn
    have htl:=tzN_lt hn
    have hbl:blN z.natAbs≤k:=by
      unfold blN
      rw [if_neg hn]
      exact (Nat.log2_lt hn).2 hz
    have hbg:=bgOk_b hz hk
    generalize ht:tzN z.natAbs=t at *
    have e0:bigSign z=some (if z<0 then -1 else 1):=by
      unfold bigSign
      by_cases c:z<0
      · rw [if_pos c,if_pos c]
      · rw [if_neg c,if_neg c,if_neg h0]
    have e1:bigTrailingZeroBits z=some (t:Int):=by unfold bigTrailingZeroBits;rw [hbg,Option.bind_some,ht]
    have e2:bigBitLen z=some (blN z.natAbs:Int):=by unfold bigBitLen;rw [hbg];rfl
    have e3:bigAbs z=some (z.natAbs:Int):=by unfold bigAbs;rw [hbg];rfl
    have wt:IntKind.i64.wrap (t:Int)=(t:Int):=wrI (by omega) (by omega)
    have ut:IntKind.u64.wrap (t:Int)=(t:Int):=w64n (by omega)
    have e4:bigRsh (z.natAbs:Int) (t:Int)=some ((z.natAbs/2^t:Nat):Int):=by
      unfold bigRsh
      rw [if_pos ⟨by omega,by omega,by omega⟩,bgOk_b (k:=k) (by simpa using hz) hk]
      simp only [Option.bind_some,Int.natAbs_natCast,Int.toNat_natCast]
    have e5:T_dyad_limbs ((z.natAbs/2^t:Nat):Int)=some (LW (z.natAbs/2^t)):=limbs_t (Nat.lt_of_le_of_lt (Nat.div_le_self _ _) hz) hk
    have hm0:z.natAbs/2^t≠0:=by omega
    have hb:blN z.natAbs=blN (z.natAbs/2^t)+t:=by
      conv=>lhs;rw [k1,Nat.mul_comm]
      exact blN_shift _ _ hm0
    have ne:((if z<0 then (-1:Int) else 1)==0)=false:=by split<;>decide
    have e6:decide ((if z<0 then (-1:Int) else 1)<0)=decide (z<0):=by
      by_cases c:z<0
      · simp [c]
      · simp [c]
    rw [if_neg h0,e0,Option.bind_some,ne,cF,e1,Option.bind_some,wt,wrI (n := -65536-(t:Int)) (by omega) (by omega),e2]
    unfold canoO
    refine eq_cond (fun h=>?_) (fun h=>?_)
    · rw [if_pos (by simp at h;omega)];rfl
    · refine eq_cond (fun h2=>?_) (fun h2=>?_)
      · rw [if_pos (by simp at h2;omega)];rfl
      · rw [wrI (n:=e+(t:Int)) (by simp at h h2;omega) (by simp at h h2;omega)]
        refine eq_cond (fun h3=>?_) (fun h3=>?_)
        · rw [if_pos (by simp at h3;omega)];rfl
        · rw [Option.bind_some,wrI (n:=(blN z.natAbs:Int)-(t:Int)) (by omega) (by omega)]
          simp only [decide_eq_false_iff_not] at h h2 h3
          refine eq_cond (fun h4=>?_) (fun h4=>?_)
          · rw [if_pos (by simp at h4;omega)];rfl
          · have hc : ¬ (e+(t:Int) < -65536∨65536<e+(t:Int)∨16384<blN (z.natAbs/2^t)):=by simp at h4;omega
            rw [if_neg hc,Option.bind_some,e3,Option.bind_some,ut,e4,Option.bind_some,e5,Option.bind_some,e6]
end Go.Eng
/-
  Dyads on the plain side: which are right, their numbers, sums and products. No condition.
-/
set_option maxRecDepth 100000
set_option maxHeartbeats 400000
set_option exponentiation.threshold 70000
namespace Go.Eng
open Go
def Gd (s:Bool) (l:List Int) (e:Int):Prop:=(l = []∧s=false∧e=0)∨∃ m,m%2=1∧l=LW m ∧ -65536≤e∧e≤65536∧blN m≤16384
theorem blN_le {m k:Nat}:blN m≤k↔m<2^k:=by
  unfold blN
  by_cases h:m=0
  · subst h;simp;exact Nat.two_pow_pos k
  · rw [if_neg h,← Nat.log2_lt h];omega
theorem Gd.ld {s:Bool} {l:List Int} {e:Int} (h:Gd s l e):Ld l∧l.length≤256 ∧ -65536≤e∧e≤65536∧lv l<2^16384:=by
  rcases h with ⟨rfl,_,rfl⟩ | ⟨m,_,rfl,h1,h2,h3⟩
  · refine ⟨fun x hx=>(by cases hx),by simp,by decide,by decide,?_⟩
    exact Nat.two_pow_pos 16384
  · have:=blN_le.1 h3
    refine ⟨LW_ld m,LW_len (by simpa using this),h1,h2,by rw [lv_LW];exact this⟩
theorem even1 {x:Int} (h0:0≤x) (h:x<18446744073709551616):IntKind.u64.wrap (BitVec.ofInt IntKind.u64.bits x &&& BitVec.ofInt IntKind.u64.bits 1).toNat=x%2:=by
  obtain ⟨n,rfl⟩:=Int.eq_ofNat_of_zero_le h0
  have e:(BitVec.ofInt IntKind.u64.bits ((n:Nat):Int) &&& BitVec.ofInt IntKind.u64.bits 1).toNat=n%2:=by
    show (BitVec.ofInt 64 ((n:Nat):Int) &&& BitVec.ofInt 64 ((1:Nat):Int)).toNat=_
    rw [BitVec.toNat_and,BitVec.ofInt_natCast,BitVec.ofInt_natCast,BitVec.toNat_ofNat,BitVec.toNat_ofNat,Nat.mod_eq_of_lt (by omega)]
    exact Nat.and_one_is_mod n
  rw [e,w64n (by omega)];omega
theorem LW_top {m:Nat} (h:m≠0):(LW m).getD ((LW m).length-1) 0≠0:=by
  induction m using LW_ind with
  | h0=>exact absurd rfl h
  | h n h0 ih=>
    rw [LW_pos h0]
    by_cases e:n/18446744073709551616=0
    · rw [e,LW_zero]
      simp;omega
    · have:=ih e
      have hl:(LW (n/18446744073709551616)) ≠ []:=fun c=>e (LW_nil.1 c)
      obtain ⟨x,r,hx⟩:=List.exists_cons_of_ne_nil hl
      rw [hx] at this ⊢
      simpa using this
theorem dright_t {s:Bool} {l:List Int} {e:Int} (hl:Ld l) (hn:l.length≤4294967296):∃ b,T_dyad_Right s l e=some b∧(b=true↔Gd s l e):=by
  unfold T_dyad_Right
  rw [Option.bind_some]
  cases l with
  | nil=>
    rw [cond_t (by rfl)]
    cases s with
    | false=>
      refine ⟨e==0,rfl,?_⟩
      constructor
      · intro h;exact .inl ⟨rfl,rfl,by simpa using h⟩
      · rintro (⟨_,_,h⟩ | ⟨m,h1,h2,_⟩)
        · simpa using h
        · have:=LW_nil.1 h2.symm;omega
    | true=>
      refine ⟨false,rfl,?_⟩
      constructor
      · intro h;cases h
      · rintro (⟨_,h,_⟩ | ⟨m,h1,h2,_⟩)
        · cases h
        · have:=LW_nil.1 h2.symm;omega
  | cons x r=>
    have hne : ¬ ((x::r) = []):=by simp
    have none : ¬ Gd s (x::r) e→∃ b,some false=some b∧(b=true↔Gd s (x::r) e):=fun h=>⟨false,rfl,⟨fun c=>(by cases c),fun c=>absurd c h⟩⟩
    have hx:=hl x (List.mem_cons_self ..)
    rw [cond_f (by simp;omega)]
    have gdl:Gd s (x::r) e→(x::r).length≤256:=fun h=>h.ld.2.1
    have split:Gd s (x::r) e→(x::r).getD ((x::r).length-1) 0≠0∧x%2=1 ∧ -65536≤e∧e≤65536:=by
      rintro (⟨h,_⟩ | ⟨m,h1,h2,h3,h4,_⟩)
      · cases h
      · have hm:m≠0:=by omega
        refine ⟨by rw [h2];exact LW_top hm,?_,h3,h4⟩
        rw [LW_pos hm] at h2
        have:x=((m%18446744073709551616:Nat):Int):=by injection h2
        omega
    by_cases c1:(x::r).length≤256
    · rw [cond_t (by simp at c1 ⊢;omega),wrI (by omega) (by omega)]
      have ei:(((x::r).length:Nat):Int)-1=(((x::r).length-1:Nat):Int):=by simp
      rw [ei,at_getD 0 (by simp),Option.bind_some]
      by_cases c2:(x::r).getD ((x::r).length-1) 0=0
      · rw [cond_f (by simpa using c2)]
        exact none fun h=>(split h).1 c2
      · rw [cond_t (by simpa using c2)]
        have e0:atI (x::r) 0=some x:=rfl
        rw [e0,Option.bind_some,even1 hx.1 hx.2]
        by_cases c3:x%2=1
        · rw [cond_t (by simpa using c3)]
          by_cases c4 : -65536≤e
          · rw [cond_t (by simpa using c4)]
            refine ⟨decide (e≤65536),rfl,?_⟩
            rw [decide_eq_true_iff]
            constructor
            · intro c5
              have hw:=LW_of hl (.inr c2)
              refine .inr ⟨lv (x::r),?_,hw,c4,c5,?_⟩
              · have e0:lv (x::r)=x.toNat+18446744073709551616*lv r:=rfl
                rw [e0];omega
              · refine blN_le.2 (Nat.lt_of_lt_of_le (lv_lt hl) (Nat.pow_le_pow_right (by omega) (by omega)))
            · intro h;exact (split h).2.2.2
          · rw [cond_f (by simpa using c4)]
            exact none fun h=>c4 (split h).2.2.1
        · rw [cond_f (by simpa using c3)]
          exact none fun h=>c3 (split h).2.1
    · rw [cond_f (by simp at c1 ⊢;omega)]
      exact none fun h=>c1 (gdl h)
theorem right_of {s:Bool} {l:List Int} {e:Int} (h:Gd s l e):T_dyad_Right s l e=some true:=by
  obtain ⟨b,h1,h2⟩:=dright_t (s:=s) (e:=e) h.ld.1 (by have:=h.ld.2.1;omega)
  rw [h1,h2.2 h]
def zD (s:Bool) (l:List Int):Int:=sgN s (lv l)
def nD (s:Bool) (l:List Int) (e:Int):Int:=zD s l*((2^(e+65536).toNat:Nat):Int)
theorem sgN_abs (s:Bool) (m:Nat):(sgN s m).natAbs=m:=by unfold sgN;cases s<;>simp
theorem zD_abs (s:Bool) (l:List Int):(zD s l).natAbs=lv l:=sgN_abs s _
theorem Gd.z_zero {s:Bool} {l:List Int} {e:Int} (h:Gd s l e):zD s l=0↔l = []:=by
  constructor
  · intro hz
    have hm:=zD_abs s l
    rw [hz] at hm
    rcases h with ⟨h,_⟩ | ⟨m,h1,h2,_⟩
    · exact h
    · rw [h2,lv_LW] at hm
      have:m=0:=hm.symm
      omega
  · rintro rfl;unfold zD sgN lv;cases s<;>rfl
theorem cano_gd {s:Bool} {l:List Int} {e:Int} (h:Gd s l e):cano (zD s l) e=(s,l,e,0):=by
  rcases h with ⟨rfl,rfl,rfl⟩ | ⟨m,h1,rfl,h3,h4,h5⟩
  · rfl
  · have hm:m≠0:=by omega
    have hz:zD s (LW m)≠0:=by
      intro h
      have:=zD_abs s (LW m)
      rw [h,lv_LW] at this
      exact hm this.symm
    have hs:decide (zD s (LW m)<0)=s:=by
      unfold zD sgN
      rw [lv_LW]
      cases s<;>simp<;>omega
    unfold cano
    rw [if_neg hz,zD_abs,lv_LW,hs,tzN_odd h1]
    unfold canoO
    have hc : ¬ (e+((0:Nat):Int) < -65536∨65536<e+((0:Nat):Int)∨16384<blN (m/2^0)):=by simp;omega
    rw [if_neg hc,Nat.pow_zero,Nat.div_one,Int.natCast_zero,Int.add_zero]
theorem nD_cano {s:Bool} {l:List Int} {e:Int} (h:Gd s l e):cano (nD s l e) (-65536)=(s,l,e,0):=by
  have hb:=h.ld
  have:=cano_shift (zD s l) e (e+65536).toNat
  rw [cano_gd h] at this
  unfold nD
  rw [← this]
  congr 1;omega
theorem cano_out (z e:Int):(cano z e=longD)∨∃ s l f,cano z e=(s,l,f,0)∧Gd s l f∧∃ j:Nat,zD s l*((2^j:Nat):Int)=z∧(z≠0→f=e+j):=by
  unfold cano
  by_cases h0:z=0
  · rw [if_pos h0]
    exact .inr ⟨false,[],0,rfl,.inl ⟨rfl,rfl,rfl⟩,0,by subst h0;rfl,fun h=>absurd h0 h⟩
  · rw [if_neg h0]
    unfold canoO
    by_cases c:e+(tzN z.natAbs:Int) < -65536∨65536<e+(tzN z.natAbs:Int)∨16384<blN (z.natAbs/2^tzN z.natAbs)
    · rw [if_pos c];exact .inl rfl
    · rw [if_neg c]
      obtain ⟨k1,k2,_⟩:=tzN_spec (n:=z.natAbs) (by omega)
      refine .inr ⟨_,_,_,rfl,.inr ⟨_,k2,rfl,by omega,by omega,by omega⟩,tzN z.natAbs,?_,fun _=>rfl⟩
      have e1:(z.natAbs/2^tzN z.natAbs)*2^tzN z.natAbs=z.natAbs:=by rw [Nat.mul_comm];exact k1.symm
      unfold zD sgN
      rw [lv_LW]
      generalize z.natAbs/2^tzN z.natAbs=m at e1
      generalize 2^tzN z.natAbs=P at e1
      have e2:((m:Nat):Int)*((P:Nat):Int)=(z.natAbs:Int):=by rw [← e1];simp
      by_cases hz:z<0
      · rw [decide_eq_true hz,if_pos rfl,Int.neg_mul,e2];omega
      · rw [decide_eq_false hz,if_neg (by simp),e2];omega
theorem cano_num {z:Int} {s:Bool} {l:List Int} {f:Int} {k:Nat} (h:cano z (-65536-(k:Int))=(s,l,f,0)):Gd s l f∧nD s l f*((2^k:Nat):Int)=z:=by
  rcases cano_out z (-65536-(k:Int)) with h1 | ⟨s',l',f',h1,hg,j,hj,hf⟩
  · rw [h1] at h;cases h
  · rw [h1] at h
    simp only [Prod.mk.injEq] at h
    obtain ⟨rfl,rfl,rfl,_⟩:=h
    refine ⟨hg,?_⟩
    by_cases h0:z=0
    · subst h0
      have:zD s' l'=0:=by
        rcases Int.mul_eq_zero.1 hj with h | h
        · exact h
        · have:=Nat.two_pow_pos j;omega
      unfold nD
      rw [this];simp
    · have ef:=hf h0
      have hb:=hg.ld
      unfold nD
      rw [← hj,Int.mul_assoc]
      congr 1
      have:(f'+65536).toNat+k=j:=by omega
      rw [← this,Nat.pow_add,Int.natCast_mul]
theorem whole_gd {s:Bool} {l:List Int} {e:Int} (h:Gd s l e):T_dyad_whole s l e=some (zD s l):=whole_t h.ld.1 (by have:=h.ld.2.1;omega)
theorem both_gd {s t:Bool} {l m:List Int} {e f:Int} (h:Gd s l e) (k:Gd t m f):T_dyad_both s l e t m f=some true:=by
  unfold T_dyad_both
  rw [right_of h,Option.bind_some,cT,right_of k];rfl
theorem pow_lt_abs {z:Int} {m k j:Nat} (h:z.natAbs=m) (hm:m<2^k):(z*((2^j:Nat):Int)).natAbs<2^(k+j):=by
  rw [Int.natAbs_mul,Int.natAbs_natCast,h,Nat.pow_add]
  exact Nat.mul_lt_mul_of_pos_right hm (Nat.two_pow_pos j)
theorem nD_shift {s:Bool} {l:List Int} {e:Int} (h1 : -65536≤e):cano (nD s l e) (-65536)=cano (zD s l) e:=by
  rw [← cano_shift (zD s l) e (e+65536).toNat]
  unfold nD
  congr 1;omega
theorem dadd_core {z1 z2 e1 e2:Int} (h1:z1.natAbs<2^16384) (h2:z2.natAbs<2^16384) (o1:z1.natAbs%2=1) (n2:z2≠0) (he:e1≤e2) (b1 : -65536≤e1) (b2:e2≤65536) :
    (cond (decide ((IntKind.i64.wrap (e2-e1))>16385)) (some (false,([]:List Int),(0:Int),(3:Int)))
      ((bigLsh z2 (IntKind.u64.wrap (IntKind.i64.wrap (e2-e1)))).bind fun t20=>(bigAdd t20 z1).bind fun t21=>(T_dyad_made t21 e1).bind fun o=>match o with
        | (t22,t23,t24,t25)=>some (t22,t23,t24,t25)))=some (cano (z1*((2^(e1+65536).toNat:Nat):Int)+z2*((2^(e2+65536).toNat:Nat):Int)) (-65536)):=by
  obtain ⟨d,hd⟩:∃ d:Nat,e2-e1=d:=⟨(e2-e1).toNat,by omega⟩
  have hV:cano (z1*((2^(e1+65536).toNat:Nat):Int)+z2*((2^(e2+65536).toNat:Nat):Int)) (-65536)=cano (z2*((2^d:Nat):Int)+z1) e1:=by
    rw [← cano_shift (z2*((2^d:Nat):Int)+z1) e1 (e1+65536).toNat]
    have q:(e2+65536).toNat=d+(e1+65536).toNat:=by omega
    rw [q,Nat.pow_add,Int.natCast_mul,Int.add_mul,Int.mul_assoc,Int.add_comm]
    congr 1;omega
  rw [hV,hd,wrN (by omega),w64n (by omega)]
  have hP:0<2^16384:=Nat.two_pow_pos 16384
  have hlt:(z2*((2^d:Nat):Int)).natAbs<2^(16384+d):=pow_lt_abs rfl h2
  refine eq_cond (fun hc=>?_) (fun hc=>?_)
  · simp only [decide_eq_true_eq] at hc
    have h4:4*2^16384≤2^d:=by
      have:=Nat.pow_le_pow_right (show 0<2 by omega) (show 2+16384≤d by omega)
      rw [Nat.pow_add] at this
      exact this
    have hev:2^d%2=0:=by
      rw [show d=(d-1)+1 by omega,Nat.pow_succ];omega
    have hz:(z2*((2^d:Nat):Int)).natAbs=z2.natAbs*2^d:=by rw [Int.natAbs_mul,Int.natAbs_natCast]
    have hge:2^d≤z2.natAbs*2^d:=Nat.le_mul_of_pos_left _ (by omega)
    have hpar:z2.natAbs*2^d%2=0:=by rw [Nat.mul_mod,hev];simp
    generalize hA:z2*((2^d:Nat):Int)=A at *
    generalize z2.natAbs*2^d=B at *
    generalize 2^d=D at *
    have big:2^16384≤(A+z1).natAbs:=by
      generalize 2^16384=P at *
      omega
    have odd:(A+z1).natAbs%2=1:=by omega
    unfold cano
    rw [if_neg (by omega),tzN_odd odd]
    unfold canoO
    have hbl:16384<blN ((A+z1).natAbs/2^0):=by
      rw [Nat.pow_zero,Nat.div_one]
      rcases Nat.lt_or_ge 16384 (blN (A+z1).natAbs) with g | g
      · exact g
      · have:=blN_le.1 g;omega
    rw [if_pos (.inr (.inr hbl))];rfl
  · simp only [decide_eq_false_iff_not] at hc
    have e3:bigLsh z2 (d:Int)=some (z2*((2^d:Nat):Int)):=by
      unfold bigLsh
      rw [if_pos ⟨by omega,by omega⟩,bgOk_b h2 (by omega),Option.bind_some,Int.toNat_natCast,bgOk_b hlt (by omega)]
    have e4:bigAdd (z2*((2^d:Nat):Int)) z1=some (z2*((2^d:Nat):Int)+z1):=by
      unfold bigAdd
      rw [bgOk_b hlt (by omega),bgOk_b h1 (by omega)];rfl
    have hs:(z2*((2^d:Nat):Int)+z1).natAbs<2^(16384+d+1):=by
      have:=Nat.pow_le_pow_right (show 0<2 by omega) (show 16384≤16384+d by omega)
      rw [Nat.pow_succ]
      generalize 2^(16384+d)=Q at *
      generalize 2^16384=P at *
      omega
    rw [e3,Option.bind_some,e4,Option.bind_some,made_t hs (by omega),Option.bind_some]
theorem sign_t (z:Int):∃ y,bigSign z=some y∧(y==0)=decide (z=0):=by
  unfold bigSign
  refine ⟨_,rfl,?_⟩
  by_cases h:z<0
  · rw [if_pos h];simp;omega
  · by_cases h0:z=0
    · rw [if_neg h,if_pos h0,decide_eq_true h0];rfl
    · rw [if_neg h,if_neg h0,decide_eq_false h0];rfl
theorem Gd.odd {s:Bool} {l:List Int} {e:Int} (h:Gd s l e) (h0:zD s l≠0):(zD s l).natAbs%2=1:=by
  rcases h with ⟨rfl,rfl,rfl⟩ | ⟨m,h1,rfl,_⟩
  · exact absurd rfl h0
  · rw [zD_abs,lv_LW];exact h1
theorem Gd.nil_e {s:Bool} {l:List Int} {e:Int} (h:Gd s l e) (h0:zD s l=0):e=0:=by
  have:=h.z_zero.1 h0
  rcases h with ⟨_,_,h⟩ | ⟨m,h1,h2,_⟩
  · exact h
  · rw [this] at h2
    have:=LW_nil.1 h2.symm
    omega
theorem dadd_t {s t:Bool} {l m:List Int} {e f:Int} (h:Gd s l e) (k:Gd t m f):T_dyad_Add s l e t m f=some (cano (nD s l e+nD t m f) (-65536)):=by
  have b1:=h.ld
  have b2:=k.ld
  have a1:=zD_abs s l
  have a2:=zD_abs t m
  have z1:(zD s l).natAbs<2^16384:=by rw [a1];exact b1.2.2.2.2
  have z2:(zD t m).natAbs<2^16384:=by rw [a2];exact b2.2.2.2.2
  obtain ⟨y1,s1,q1⟩:=sign_t (zD s l)
  obtain ⟨y2,s2,q2⟩:=sign_t (zD t m)
  unfold T_dyad_Add
  rw [both_gd h k,Option.bind_some,Bool.not_true,cF,whole_gd h,Option.bind_some,whole_gd k,Option.bind_some,s1,Option.bind_some,s2,q1]
  have test:(cond (!(decide (zD s l=0))) ((some y2).bind fun t6=>some (t6==0)) (some true))=some (decide (zD s l=0)||decide (zD t m=0)):=by
    rw [Option.bind_some,q2]
    cases decide (zD s l=0)<;>rfl
  rw [test,Option.bind_some]
  have sum:bigAdd (zD s l) (zD t m)=some (zD s l+zD t m):=by
    unfold bigAdd
    rw [bgOk_b z1 (by omega),bgOk_b z2 (by omega)];rfl
  have hs:(zD s l+zD t m).natAbs<2^16385:=by
    rw [Nat.pow_succ]
    generalize 2^16384=P at *
    omega
  by_cases c1:zD s l=0
  · have e0:=h.nil_e c1
    have n0:nD s l e=0:=by unfold nD;rw [c1,Int.zero_mul]
    rw [cond_t (by simp [c1]),sum,Option.bind_some,wrI (by omega) (by omega),made_t hs (by omega),Option.bind_some,c1,e0,Int.zero_add,Int.zero_add]
    subst e0
    rw [n0,Int.zero_add,nD_shift (by omega)]
  · by_cases c2:zD t m=0
    · have f0:=k.nil_e c2
      have n0:nD t m f=0:=by unfold nD;rw [c2,Int.zero_mul]
      rw [cond_t (by simp [c2]),sum,Option.bind_some,wrI (by omega) (by omega),made_t hs (by omega),Option.bind_some,c2,f0,Int.add_zero,Int.add_zero]
      subst f0
      rw [n0,Int.add_zero,nD_shift (by omega)]
    · rw [cond_f (by simp [c1,c2])]
      by_cases c:e<f
      · rw [cond_t (by simpa using c),Option.bind_some]
        exact dadd_core z1 z2 (h.odd c1) c2 (by omega) (by omega) (by omega)
      · rw [cond_f (by simpa using c),Option.bind_some]
        refine (dadd_core z2 z1 (k.odd c2) c1 (by omega) (by omega) (by omega)).trans ?_
        rw [Int.add_comm];rfl
end Go.Eng
