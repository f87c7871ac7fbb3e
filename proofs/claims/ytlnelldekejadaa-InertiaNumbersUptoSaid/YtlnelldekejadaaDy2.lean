
/-
  Dyads on the plain side: limbs, whole numbers, the form that is made. No condition.
-/
import Derived.Test.YtlnelldekejadaaTp
import Derived.Test.YtlnelldekejadaaBw3
import Derived.Test.YtlnelldekejadaaPl
set_option linter.all false
set_option maxRecDepth 100000
set_option maxHeartbeats 400000
set_option exponentiation.threshold 70000
namespace Go.Eng
open Go
def lv:List Int→Nat
  | []=>0
  | x::l=>x.toNat+18446744073709551616*lv l
def Ld (l:List Int):Prop:=∀ x∈l,0≤x∧x<18446744073709551616
def LW (n:Nat):List Int:=if n=0 then [] else ((n%18446744073709551616:Nat):Int)::LW (n/18446744073709551616)
termination_by n
decreasing_by omega
theorem LW_zero:LW 0 = []:=by rw [LW];rfl
theorem LW_pos {n:Nat} (h:n≠0):LW n=((n%18446744073709551616:Nat):Int)::LW (n/18446744073709551616):=by rw [LW,if_neg h]
theorem LW_ind {p:Nat→Prop} (h0:p 0) (h:∀ n,n≠0→p (n/18446744073709551616)→p n) (n:Nat):p n:=by
  induction n using Nat.strongRecOn with
  | ind n ih=>
    by_cases e:n=0
    · subst e;exact h0
    · exact h n e (ih _ (by omega))
theorem lv_LW (n:Nat):lv (LW n)=n:=by
  induction n using LW_ind with
  | h0=>rw [LW_zero];rfl
  | h n h0 ih=>rw [LW_pos h0];unfold lv;rw [ih];simp;omega
theorem LW_ld (n:Nat):Ld (LW n):=by
  induction n using LW_ind with
  | h0=>rw [LW_zero];intro x h;cases h
  | h n h0 ih=>
    rw [LW_pos h0]
    intro x hx
    rcases List.mem_cons.1 hx with rfl | hx
    · omega
    · exact ih x hx
theorem LW_nil {n:Nat}:LW n = []↔n=0:=by
  constructor
  · intro h
    by_cases e:n=0
    · exact e
    · rw [LW_pos e] at h;cases h
  · rintro rfl;exact LW_zero
theorem LW_len {n k:Nat} (h:n<2^(64*k)):(LW n).length≤k:=by
  induction k generalizing n with
  | zero=>
      have:n=0:=by simpa using h
      subst this;rw [LW_zero];simp
  | succ k ih=>
    by_cases e:n=0
    · subst e;rw [LW_zero];simp
    · rw [LW_pos e,List.length_cons]
      have:n/18446744073709551616<2^(64*k):=by
        rw [Nat.div_lt_iff_lt_mul (by omega)]
        rw [show 64*(k+1)=64*k+64 by omega,Nat.pow_add] at h
        exact h
      have:=ih this
      omega
theorem lv_lt {l:List Int} (h:Ld l):lv l<2^(64*l.length):=by
  induction l with
  | nil=>simp [lv]
  | cons x l ih=>
    have h1:=h x (List.mem_cons_self ..)
    have h2:=ih fun y hy=>h y (List.mem_cons_of_mem _ hy)
    rw [List.length_cons,show 64*(l.length+1)=64*l.length+64 by omega,Nat.pow_add]
    unfold lv
    generalize 2^(64*l.length)=P at *
    have e:(2:Nat)^64=18446744073709551616:=by decide
    rw [e]
    omega
theorem Ld.drop {l:List Int} (h:Ld l) (n:Nat):Ld (l.drop n):=fun y hy=>h y (List.mem_of_mem_drop hy)
theorem LW_of:∀ {l:List Int},Ld l→(l = []∨l.getD (l.length-1) 0≠0)→l=LW (lv l)
  | [],_,_=>by unfold lv;rw [LW_zero]
  | x::l,h,h0=>by
    have h1:=h x (List.mem_cons_self ..)
    have h2:Ld l:=fun y hy=>h y (List.mem_cons_of_mem _ hy)
    have hl:l = []∨l.getD (l.length-1) 0≠0:=by
      cases l with
      | nil=>exact .inl rfl
      | cons y m=>
        right
        rcases h0 with h0 | h0
        · cases h0
        · simpa using h0
    have ih:=LW_of h2 hl
    have hne:lv (x::l)≠0:=by
      unfold lv
      rcases h0 with h0 | h0
      · cases h0
      · cases l with
        | nil=>
          have:x≠0:=by simpa using h0
          omega
        | cons y m=>
          have:lv (y::m)≠0:=fun e=>by rw [e,LW_zero] at ih;cases ih
          omega
    rw [LW_pos hne]
    have e0:lv (x::l)=x.toNat+18446744073709551616*lv l:=rfl
    have e1:lv (x::l)/18446744073709551616=lv l:=by rw [e0];omega
    have e2:((lv (x::l)%18446744073709551616:Nat):Int)=x:=by rw [e0];omega
    rw [e1,e2,← ih]
theorem bgOk_b {z:Int} {k:Nat} (h:z.natAbs<2^k) (hk:k≤34359738368):bgOk z=some z:=by
  unfold bgOk
  by_cases h0:z.natAbs=0
  · rw [h0,if_pos (by decide)]
  · have:=(Nat.log2_lt h0).2 h
    rw [if_pos (by omega)]
theorem pow_add64 (k:Nat):(2:Nat)^(k+64)=2^k*18446744073709551616:=Nat.pow_add 2 k 64
def sgN (s:Bool) (m:Nat):Int:=if s then -(m:Int) else (m:Int)
theorem whole_t {s:Bool} {l:List Int} {e:Int} (h:Ld l) (hl:l.length≤536870000):T_dyad_whole s l e=some (sgN s (lv l)):=by
  have key:iter (T_dyad_whole_b2 ((l.length:Nat):Int) l) FU (0,0)=some ((lv l:Nat):Int):=by
    have:=iter_nat (b:=T_dyad_whole_b2 ((l.length:Nat):Int) l) (fun i=>(((i:Nat):Int),((lv (l.drop (l.length-i)):Nat):Int))) (o:=((lv l:Nat):Int)) l.length (by rw [FU_eq];omega) (fun i hi=>by
      have hb:=lv_lt (h.drop (l.length-i))
      have hlen:(l.drop (l.length-i)).length=i:=by simp;omega
      rw [hlen] at hb
      have e0:l.drop (l.length-(i+1))=l.getD (l.length-1-i) 0::l.drop (l.length-i):=by
        rw [List.drop_eq_getElem_cons (by omega),List.getD_eq_getElem?_getD,List.getElem?_eq_getElem (by omega)]
        congr 1
        · simp;congr 1;omega
        · congr 1;omega
      have hx:=h (l.getD (l.length-1-i) 0) (by rw [List.getD_eq_getElem?_getD,List.getElem?_eq_getElem (by omega)];exact List.getElem_mem _)
      generalize hA:lv (l.drop (l.length-i))=A at *
      have hlv:lv (l.drop (l.length-(i+1)))=(l.getD (l.length-1-i) 0).toNat+18446744073709551616*A:=by rw [e0];unfold lv;rw [hA]
      generalize hX:l.getD (l.length-1-i) 0=x at *
      have hA2:A*18446744073709551616<2^(64*i+64):=by rw [pow_add64];exact Nat.mul_lt_mul_of_pos_right hb (by omega)
      have e1:bigLsh ((A:Nat):Int) 64=some ((A*18446744073709551616:Nat):Int):=by
        unfold bigLsh
        rw [if_pos ⟨by decide,by decide⟩,bgOk_b (k:=64*i) (by simpa using hb) (by omega),Option.bind_some]
        have:((A:Nat):Int)*((2^(64:Int).toNat:Nat):Int)=((A*18446744073709551616:Nat):Int):=by simp
        rw [this,bgOk_b (k:=64*i+64) (by rw [Int.natAbs_natCast];exact hA2) (by omega)]
      have e2:bigSetUint64 x=some x:=by unfold bigSetUint64;rw [if_pos hx]
      have e3:bigOr ((A*18446744073709551616:Nat):Int) x=some ((lv (l.drop (l.length-(i+1))):Nat):Int):=by
        unfold bigOr
        have ho:A*18446744073709551616 ||| x.toNat=x.toNat+18446744073709551616*A:=by
          have:=Nat.two_pow_add_eq_or_of_lt (show x.toNat<2^64 by omega) A
          rw [Nat.mul_comm A,show (18446744073709551616:Nat)=2^64 by decide,← this];omega
        rw [if_pos ⟨by omega,hx.1⟩,bgOk_b (k:=64*i+64) (by rw [Int.natAbs_natCast];exact hA2) (by omega),bgOk_b (z:=x) (k:=64) (by omega) (by omega)]
        simp only [Option.bind_some,Int.natAbs_natCast]
        rw [show x.natAbs=x.toNat by omega,ho,hlv]
      unfold T_dyad_whole_b2
      dsimp only
      rw [cond_t (by simp;omega),e1,Option.bind_some,Option.bind_some]
      have ei:IntKind.i64.wrap (IntKind.i64.wrap (((l.length:Nat):Int)-1)-(i:Int))=((l.length-1-i:Nat):Int):=by
        rw [wrI (n:=((l.length:Nat):Int)-1) (by omega) (by omega),wrI (by omega) (by omega)];omega
      rw [ei,at_getD 0 (by omega),Option.bind_some,hX,e2,Option.bind_some,e3,Option.bind_some,wrU (by omega)]) (by
      unfold T_dyad_whole_b2
      dsimp only
      rw [cond_f (by simp),Nat.sub_self,List.drop_zero])
    have e0:((lv (l.drop (l.length-0)):Nat):Int)=0:=by
      rw [Nat.sub_zero,List.drop_length];rfl
    rw [e0] at this
    exact this
  have hb:=lv_lt h
  unfold T_dyad_whole
  rw [Option.bind_some,key,Option.bind_some]
  cases s with
  | false=>rfl
  | true=>
    rw [cT]
    unfold bigNeg
    rw [bgOk_b (k:=64*l.length) (by simpa using hb) (by omega)];rfl
theorem blN_shift (n j:Nat) (h:n≠0):blN (n*2^j)=blN n+j:=by
  have hp:=Nat.two_pow_pos j
  have hne:n*2^j≠0:=Nat.mul_ne_zero h (by omega)
  have:(n*2^j).log2=n.log2+j:=by
    clear hne hp
    induction j with
    | zero=>simp
    | succ j ih=>
      have hp:=Nat.two_pow_pos j
      have hne:n*2^j≠0:=Nat.mul_ne_zero h (by omega)
      rw [Nat.pow_succ,← Nat.mul_assoc,Nat.log2_def,if_pos (by omega),Nat.mul_div_cancel _ (by omega),ih];omega
  unfold blN
  rw [if_neg hne,if_neg h,this];omega
abbrev DyR:=Bool×List Int×Int×Int
def nilD:DyR:=(false,[],0,0)
end Go.Eng
/-
  Dyads on the plain side: which are right, their numbers, sums and products. No condition.
-/
set_option maxRecDepth 100000
set_option maxHeartbeats 400000
set_option exponentiation.threshold 70000
namespace Go.Eng
open Go
def Gd (s:Bool) (l:List Int) (e:Int):Prop:=(l = []∧s=false∧e=0)∨∃ m,m%2=1∧l=LW m ∧ -65536≤e∧e≤65536∧blN m≤16384
theorem blN_le {m k:Nat}:blN m≤k↔m<2^k:=by
  unfold blN
  by_cases h:m=0
  · subst h;simp;exact Nat.two_pow_pos k
  · rw [if_neg h,← Nat.log2_lt h];omega
theorem Gd.ld {s:Bool} {l:List Int} {e:Int} (h:Gd s l e):Ld l∧l.length≤256 ∧ -65536≤e∧e≤65536∧lv l<2^16384:=by
  rcases h with ⟨rfl,_,rfl⟩ | ⟨m,_,rfl,h1,h2,h3⟩
  · refine ⟨fun x hx=>(by cases hx),by simp,by decide,by decide,?_⟩
    exact Nat.two_pow_pos 16384
  · have:=blN_le.1 h3
    refine ⟨LW_ld m,LW_len (by simpa using this),h1,h2,by rw [lv_LW];exact this⟩
theorem even1 {x:Int} (h0:0≤x) (h:x<18446744073709551616):IntKind.u64.wrap (BitVec.ofInt IntKind.u64.bits x &&& BitVec.ofInt IntKind.u64.bits 1).toNat=x%2:=by
  obtain ⟨n,rfl⟩:=Int.eq_ofNat_of_zero_le h0
  have e:(BitVec.ofInt IntKind.u64.bits ((n:Nat):Int) &&& BitVec.ofInt IntKind.u64.bits 1).toNat=n%2:=by
    show (BitVec.ofInt 64 ((n:Nat):Int) &&& BitVec.ofInt 64 ((1:Nat):Int)).toNat=_
    rw [BitVec.toNat_and,BitVec.ofInt_natCast,BitVec.ofInt_natCast,BitVec.toNat_ofNat,BitVec.toNat_ofNat,Nat.mod_eq_of_lt (by omega)]
    exact Nat.and_one_is_mod n
  rw [e,w64n (by omega)];omega
theorem LW_top {m:Nat} (h:m≠0):(LW m).getD ((LW m).length-1) 0≠0:=by
  induction m using LW_ind with
  | h0=>exact absurd rfl h
  | h n h0 ih=>
    rw [LW_pos h0]
    by_cases e:n/18446744073709551616=0
    · rw [e,LW_zero]
      simp;omega
    · have:=ih e
      have hl:(LW (n/18446744073709551616)) ≠ []:=fun c=>e (LW_nil.1 c)
      obtain ⟨x,r,hx⟩:=List.exists_cons_of_ne_nil hl
      rw [hx] at this ⊢
      simpa using this
theorem dright_t {s:Bool} {l:List Int} {e:Int} (hl:Ld l) (hn:l.length≤4294967296):∃ b,T_dyad_Right s l e=some b∧(b=true↔Gd s l e):=by
  unfold T_dyad_Right
  rw [Option.bind_some]
  cases l with
  | nil=>
    rw [cond_t (by rfl)]
    cases s with
    | false=>
      refine ⟨e==0,rfl,?_⟩
      constructor
      · intro h;exact .inl ⟨rfl,rfl,by simpa using h⟩
      · rintro (⟨_,_,h⟩ | ⟨m,h1,h2,_⟩)
        · simpa using h
        · have:=LW_nil.1 h2.symm;omega
    | true=>
      refine ⟨false,rfl,?_⟩
      constructor
      · intro h;cases h
      · rintro (⟨_,h,_⟩ | ⟨m,h1,h2,_⟩)
        · cases h
        · have:=LW_nil.1 h2.symm;omega
  | cons x r=>
    have hne : ¬ ((x::r) = []):=by simp
    have none : ¬ Gd s (x::r) e→∃ b,some false=some b∧(b=true↔Gd s (x::r) e):=fun h=>⟨false,rfl,⟨fun c=>(by cases c),fun c=>absurd c h⟩⟩
    have hx:=hl x (List.mem_cons_self ..)
    rw [cond_f (by simp;omega)]
    have gdl:Gd s (x::r) e→(x::r).length≤256:=fun h=>h.ld.2.1
    have split:Gd s (x::r) e→(x::r).getD ((x::r).length-1) 0≠0∧x%2=1 ∧ -65536≤e∧e≤65536:=by
      rintro (⟨h,_⟩ | ⟨m,h1,h2,h3,h4,_⟩)
      · cases h
      · have hm:m≠0:=by omega
        refine ⟨by rw [h2];exact LW_top hm,?_,h3,h4⟩
        rw [LW_pos hm] at h2
        have:x=((m%18446744073709551616:Nat):Int):=by injection h2
        omega
    by_cases c1:(x::r).length≤256
    · rw [cond_t (by simp at c1 ⊢;omega),wrI (by omega) (by omega)]
      have ei:(((x::r).length:Nat):Int)-1=(((x::r).length-1:Nat):Int):=by simp
      rw [ei,at_getD 0 (by simp),Option.bind_some]
      by_cases c2:(x::r).getD ((x::r).length-1) 0=0
      · rw [cond_f (by simpa using c2)]
        exact none fun h=>(split h).1 c2
      · rw [cond_t (by simpa using c2)]
        have e0:atI (x::r) 0=some x:=rfl
        rw [e0,Option.bind_some,even1 hx.1 hx.2]
        by_cases c3:x%2=1
        · rw [cond_t (by simpa using c3)]
          by_cases c4 : -65536≤e
          · rw [cond_t (by simpa using c4)]
            refine ⟨decide (e≤65536),rfl,?_⟩
            rw [decide_eq_true_iff]
            constructor
            · intro c5
              have hw:=LW_of hl (.inr c2)
              refine .inr ⟨lv (x::r),?_,hw,c4,c5,?_⟩
              · have e0:lv (x::r)=x.toNat+18446744073709551616*lv r:=rfl
                rw [e0];omega
              · refine blN_le.2 (Nat.lt_of_lt_of_le (lv_lt hl) (Nat.pow_le_pow_right (by omega) (by omega)))
            · intro h;exact (split h).2.2.2
          · rw [cond_f (by simpa using c4)]
            exact none fun h=>c4 (split h).2.2.1
        · rw [cond_f (by simpa using c3)]
          exact none fun h=>c3 (split h).2.1
    · rw [cond_f (by simp at c1 ⊢;omega)]
      exact none fun h=>c1 (gdl h)
theorem right_of {s:Bool} {l:List Int} {e:Int} (h:Gd s l e):T_dyad_Right s l e=some true:=by
  obtain ⟨b,h1,h2⟩:=dright_t (s:=s) (e:=e) h.ld.1 (by have:=h.ld.2.1;omega)
  rw [h1,h2.2 h]
def zD (s:Bool) (l:List Int):Int:=sgN s (lv l)
def nD (s:Bool) (l:List Int) (e:Int):Int:=zD s l*((2^(e+65536).toNat:Nat):Int)
theorem sgN_abs (s:Bool) (m:Nat):(sgN s m).natAbs=m:=by unfold sgN;cases s<;>simp
theorem zD_abs (s:Bool) (l:List Int):(zD s l).natAbs=lv l:=sgN_abs s _
theorem Gd.z_zero {s:Bool} {l:List Int} {e:Int} (h:Gd s l e):zD s l=0↔l = []:=by
  constructor
  · intro hz
    have hm:=zD_abs s l
    rw [hz] at hm
    rcases h with ⟨h,_⟩ | ⟨m,h1,h2,_⟩
    · exact h
    · rw [h2,lv_LW] at hm
      have:m=0:=hm.symm
      omega
  · rintro rfl;unfold zD sgN lv;cases s<;>rfl
theorem whole_gd {s:Bool} {l:List Int} {e:Int} (h:Gd s l e):T_dyad_whole s l e=some (zD s l):=whole_t h.ld.1 (by have:=h.ld.2.1;omega)
theorem pow_lt_abs {z:Int} {m k j:Nat} (h:z.natAbs=m) (hm:m<2^k):(z*((2^j:Nat):Int)).natAbs<2^(k+j):=by
  rw [Int.natAbs_mul,Int.natAbs_natCast,h,Nat.pow_add]
  exact Nat.mul_lt_mul_of_pos_right hm (Nat.two_pow_pos j)
end Go.Eng
