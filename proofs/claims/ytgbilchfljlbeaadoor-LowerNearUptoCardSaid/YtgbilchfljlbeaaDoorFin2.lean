
/-
  Rounding to the nearest is rounding by the document's words; sums and products of finite floats by value. No condition.
-/
import Derived.Test.YtgbilchfljlbeaaDoorBt
import Derived.Test.YtgbilchfljlbeaaDoorRv
import Derived.Test.YtgbilchfljlbeaaDoorWhl3
import Derived.Test.YtgbilchfljlbeaaDoorScl3
import Derived.Test.YtgbilchfljlbeaaDoorFlz3
set_option linter.all false
set_option maxRecDepth 100000
set_option maxHeartbeats 400000
set_option exponentiation.threshold 70000
namespace Go.Eng
open Go
theorem cut_even (s:Bool) {n d:Nat} (h0:n≠0):Ieee.Toward.even.cut s n d=cutV s n d 0:=by
  have hlo:2^n.log2≤n:=Nat.log2_self_le h0
  have hhi:n<2^(n.log2+1):=Nat.lt_log2_self
  have haw:∀ h o,awayM 0 s h o=(decide (h>0)||(decide (h=0)&&o)):=fun _ _=>rfl
  unfold Ieee.Toward.cut
  dsimp only
  rw [Nat.shiftLeft_eq,Nat.one_mul]
  by_cases c:d≤n.log2+2
  · rw [Nat.min_eq_left c]
    unfold cutV
    have hlt:n%2^d<2^d:=Nat.mod_lt _ (Nat.two_pow_pos d)
    congr 1
    rw [haw]
    unfold halfC
    generalize n%2^d=r at *
    generalize 2^d=P at *
    generalize (n/P%2==1)=o
    by_cases c1:2*r<P
    · rw [if_pos c1,decide_eq_false (show ¬ P<2*r by omega)]
      have:(P==2*r)=false:=by rw [beq_eq_false_iff_ne];omega
      rw [this,if_neg (fun k=>by simp at k)];rfl
    · by_cases c2:2*r=P
      · rw [if_neg c1,if_pos c2,decide_eq_false (show ¬ P<2*r by omega)]
        have:(P==2*r)=true:=by rw [beq_iff_eq];omega
        rw [this]
        cases o with
        | false=>rw [if_neg (fun k=>by simp at k)];rfl
        | true=>rw [if_pos ⟨by omega,by decide⟩];rfl
      · rw [if_neg c1,if_neg c2,decide_eq_true (show P<2*r by omega),if_pos ⟨by omega,by simp⟩];rfl
  · rw [Nat.min_eq_right (by omega)]
    have p2:2*n<2^(n.log2+2):=by
      have:2^(n.log2+2)=2*2^(n.log2+1):=by rw [Nat.pow_succ,Nat.mul_comm]
      omega
    have pd:2^(n.log2+2)≤2^d:=Nat.pow_le_pow_right (by omega) (by omega)
    unfold cutV halfC
    rw [Nat.div_eq_of_lt (by omega),Nat.mod_eq_of_lt (show n<2^(n.log2+2) by omega),Nat.div_eq_of_lt (show n<2^d by omega),Nat.mod_eq_of_lt (show n<2^d by omega),if_pos (show 2*n<2^d by omega)]
    generalize 2^(n.log2+2)=A at *
    generalize 2^d=B at *
    have e1:decide (A<2*n)=false:=decide_eq_false (by omega)
    have e2:(A==2*n)=false:=by rw [beq_eq_false_iff_ne];omega
    rw [e1,e2,if_neg (fun k=>by have:=k.2;simp [awayM] at this)];rfl
theorem near_rF (s:Bool) {n:Nat} (e:Int) (h0:n≠0):Ieee.double.nearest s n e=rF s n e 0:=by
  have hb:=blN_log h0
  have eL:max (e+(n.log2:Int)-((52:Nat):Int)) (-1074)=rL n e:=by unfold rL;omega
  have hL : -1074≤rL n e:=by unfold rL;omega
  have hS:Ieee.Toward.even.cut s (n <<< (e-rL n e).toNat) (rL n e-e).toNat=rS s n e 0:=by
    unfold rS
    rw [Nat.shiftLeft_eq]
    by_cases c:rL n e≤e
    · rw [if_pos c,show (rL n e-e).toNat=0 by omega,cut_none]
    · rw [if_neg c,show (e-rL n e).toNat=0 by omega,Nat.pow_zero,Nat.mul_one,cut_even s h0]
  have hle:=rS_le s e 0 h0
  have hz:=fun g=>rS_zero (s:=s) (e:=e) (m:=0) h0 g
  unfold Ieee.Format.nearest rF
  rw [if_neg h0,if_neg h0,lp,fb,bn,ir]
  simp only [eL]
  rw [hS]
  have ek:(rL n e - -1074).toNat*4503599627370496+rS s n e 0=rungS (rS s n e 0) (rL n e):=by
    unfold rungS;congr 2
  rw [ek]
  have big:4503599627370496≤rS s n e 0∨rL n e = -1074:=by
    by_cases g:rL n e = -1074
    · exact .inr g
    · left
      unfold rS
      by_cases c:rL n e≤e
      · rw [if_pos c]
        have hl:2^n.log2≤n:=Nat.log2_self_le h0
        have:2^n.log2*2^(e-rL n e).toNat≤n*2^(e-rL n e).toNat:=Nat.mul_le_mul_right _ hl
        rw [← Nat.pow_add] at this
        have e2:n.log2+(e-rL n e).toNat=52:=by unfold rL at *;omega
        rw [e2] at this
        exact this
      · rw [if_neg c]
        refine Nat.le_trans ?_ (Nat.le_add_right _ _)
        have hl:2^n.log2≤n:=Nat.log2_self_le h0
        have e2:n.log2=52+(rL n e-e).toNat:=by unfold rL at *;omega
        rw [e2,Nat.pow_add] at hl
        exact (Nat.le_div_iff_mul_le (Nat.two_pow_pos _)).2 (by simpa using hl)
  generalize rS s n e 0=S at *
  generalize rL n e=L at *
  unfold fltV
  by_cases c:1024<(blN S:Int)+L
  · rw [if_pos c]
    have hbS:blN S≤54:=blN_le.2 (by
        have:(2:Nat)^54=18014398509481984:=by decide
        omega)
    have hr:9218868437227405312≤rungS S L:=by
      unfold rungS
      by_cases c2:S=9007199254740992
      · have:971≤L:=by omega
        have:2045≤(L+1074).toNat:=by omega
        have:=Nat.mul_le_mul_right 4503599627370496 this
        omega
      · have hb53:blN S≤53:=blN_le.2 (by
          have:(2:Nat)^53=9007199254740992:=by decide
          omega)
        have:2046≤(L+1074).toNat:=by omega
        have:=Nat.mul_le_mul_right 4503599627370496 this
        omega
    rw [Nat.min_eq_right hr]
    unfold hugeV
    rw [if_neg (by omega)]
  · rw [if_neg c]
    obtain ⟨a,b⟩:=near_rung s hle hL (by omega) big
    rw [Nat.min_eq_left (by omega),a]
theorem near_sg {s:Bool} {n:Nat} {e:Int} (h0:n≠0):Ieee.double.nearest s n e=rV (sgN s n) e 0:=by rw [near_rF s e h0,rF_sg]
theorem fadd_v {x y:Nat} (hx:magF x<9218868437227405312) (hy:magF y<9218868437227405312) (h:sval x+sval y≠0):fadd x y=rV (sval x+sval y) (-1074) 0:=by
  obtain ⟨m,a,hr,hv⟩:=read_fin hx
  obtain ⟨n,b,hs,hw⟩:=read_fin hy
  have e1:sval x=Ieee.signed (negF x) m a:=by unfold sval;rw [signed_val,hv]
  have e2:sval y=Ieee.signed (negF y) n b:=by unfold sval;rw [signed_val,hw]
  have c:min (-1074+(a:Int)) (-1074+(b:Int)) = -1074+((min a b:Nat):Int):=by omega
  have c1:(-1074+(a:Int)-(-1074+((min a b:Nat):Int))).toNat=a-min a b:=by omega
  have c2:(-1074+(b:Int)-(-1074+((min a b:Nat):Int))).toNat=b-min a b:=by omega
  have d1:Ieee.signed (negF x) m a=Ieee.signed (negF x) m (a-min a b)*((2^min a b:Nat):Int):=by rw [← signed_scale];congr 1;omega
  have d2:Ieee.signed (negF y) n b=Ieee.signed (negF y) n (b-min a b)*((2^min a b:Nat):Int):=by rw [← signed_scale];congr 1;omega
  generalize ht:Ieee.signed (negF x) m (a-min a b)+Ieee.signed (negF y) n (b-min a b)=T at *
  have hT:sval x+sval y=T*((2^min a b:Nat):Int):=by rw [e1,e2,d1,d2,← Int.add_mul,ht]
  have hT0:T≠0:=fun k=>h (by rw [hT,k,Int.zero_mul])
  have hf:fadd x y=Ieee.double.nearest (if T=0 then negF x&&negF y else decide (T<0)) T.natAbs (-1074+((min a b:Nat):Int)):=by
    unfold fadd Ieee.Format.add
    rw [hr,hs]
    simp only [Ieee.Datum.sum,c,c1,c2,ht]
    rfl
  rw [hf,if_neg hT0,near_rF _ _ (by omega),hT,rV_shift];rfl
theorem fmul_v {x y:Nat} (hx:magF x<9218868437227405312) (hy:magF y<9218868437227405312) (h:sval x*sval y≠0):fmul x y=rV (sval x*sval y) (-2148) 0:=by
  obtain ⟨m,a,hr,hv⟩:=read_fin hx
  obtain ⟨n,b,hs,hw⟩:=read_fin hy
  have e1:sval x=sgN (negF x) (m*2^a):=by unfold sval sgN;rw [hv]
  have e2:sval y=sgN (negF y) (n*2^b):=by unfold sval sgN;rw [hw]
  have hm:m*n≠0:=fun k=>by
    rcases Nat.mul_eq_zero.1 k with k | k
    · exact h (by rw [e1,k,Nat.zero_mul,show sgN (negF x) 0=0 by unfold sgN;cases negF x<;>rfl,Int.zero_mul])
    · exact h (by rw [e2,k,Nat.zero_mul,show sgN (negF y) 0=0 by unfold sgN;cases negF y<;>rfl,Int.mul_zero])
  have hf:fmul x y=Ieee.double.nearest (negF x ^^ negF y) (m*n) (-1074+(a:Int)+(-1074+(b:Int))):=by
    unfold fmul Ieee.Format.mul
    rw [hr,hs];rfl
  have es:sval x*sval y=sgN (negF x ^^ negF y) (m*n)*((2^(a+b):Nat):Int):=by
    rw [e1,e2,Nat.pow_add]
    unfold sgN
    cases negF x<;>cases negF y<;>simp [Int.natCast_mul,Int.neg_mul,Int.mul_neg]<;>ac_rfl
  rw [hf,near_sg hm,es,rV_shift]
  congr 1;omega
end Go.Eng
/-
  How far a rounded number is from the exact one. No condition.
-/
set_option maxRecDepth 100000
set_option maxHeartbeats 400000
set_option exponentiation.threshold 70000
namespace Go.Eng
open Go
theorem cut_half (s:Bool) {n d:Nat} (hd:1≤d):(cutV s n d 0*2^d-n)*2≤2^d∧(n-cutV s n d 0*2^d)*2≤2^d:=by
  have hp:=Nat.two_pow_pos d
  have hdm:=Nat.div_add_mod n (2^d)
  have hlt:n%2^d<2^d:=Nat.mod_lt _ hp
  rw [Nat.mul_comm] at hdm
  have up:∀ b:Bool,awayM 0 s (halfC n d) b=(decide (halfC n d>0)||(decide (halfC n d=0)&&b)):=fun b=>rfl
  unfold cutV
  rw [up]
  unfold halfC
  generalize hP:2^d=P at *
  generalize n/P=q at *
  generalize n%P=r at *
  by_cases c1:2*r<P
  · rw [if_pos c1]
    have : ¬ (r≠0∧(decide ((-1:Int)>0)||(decide ((-1:Int)=0)&&(q%2==1)))=true):=by simp
    rw [if_neg this,Nat.add_zero]
    omega
  · rw [if_neg c1]
    by_cases c2:2*r=P
    · rw [if_pos c2]
      by_cases o:q%2=1
      · have:r≠0∧(decide ((0:Int)>0)||(decide ((0:Int)=0)&&(q%2==1)))=true:=⟨by omega,by simp [o]⟩
        rw [if_pos this,Nat.add_mul,Nat.one_mul]
        omega
      · have : ¬ (r≠0∧(decide ((0:Int)>0)||(decide ((0:Int)=0)&&(q%2==1)))=true):=by simp [o]
        rw [if_neg this,Nat.add_zero]
        omega
    · rw [if_neg c2]
      have:r≠0∧(decide ((1:Int)>0)||(decide ((1:Int)=0)&&(q%2==1)))=true:=⟨by omega,by simp⟩
      rw [if_pos this,Nat.add_mul,Nat.one_mul]
      omega
theorem rF_err (s:Bool) {n:Nat} {e:Int} {K:Nat} (h0:n≠0) (hK:1074≤K) (he : -(K:Int)≤e) (hf:magF (rF s n e 0)<9218868437227405312) :
    ∃ r,rF s n e 0=Ieee.double.word s r∧r<9218868437227405312 ∧
      (vmag r*2^(K-1074)=n*2^(e+K).toNat ∨
        (-1074≤e+(blN n:Int)-53∨e < -1074) ∧
        (vmag r*2^(K-1074)-n*2^(e+K).toNat)*2*2^52≤n*2^(e+K).toNat+(if -1074≤e+(blN n:Int)-53 then 0 else 2^(K-1074+52)) ∧
        (n*2^(e+K).toNat-vmag r*2^(K-1074))*2*2^52≤n*2^(e+K).toNat+(if -1074≤e+(blN n:Int)-53 then 0 else 2^(K-1074+52))):=by
  have hL : -1074≤rL n e:=by unfold rL;omega
  -- the word of a size that is not too great
  have word:∀ S:Nat,S≤9007199254740992→(4503599627370496≤S∨rL n e = -1074)→magF (fltV s S (rL n e) 0)<9218868437227405312→∃ r,fltV s S (rL n e) 0=Ieee.double.word s r∧r<9218868437227405312∧vmag r*2^(K-1074)=S*2^(rL n e+K).toNat:=fun S h1 h2 h3=>by
    unfold fltV at h3 ⊢
    by_cases c:1024<(blN S:Int)+rL n e
    · exfalso
      rw [if_pos c] at h3
      have:hugeV 0 s=Ieee.double.word s 9218868437227405312:=by
        unfold hugeV
        rw [if_neg (by simp)]
      rw [this,mag_word (by omega)] at h3
      omega
    · rw [if_neg c]
      obtain ⟨a1,a2⟩:=near_rung s h1 hL (by omega) h2
      refine ⟨_,a1,a2,?_⟩
      rw [rung_vmag h1 hL h2,Nat.mul_assoc,← Nat.pow_add]
      congr 2;omega
  unfold rF rS at hf ⊢
  rw [if_neg h0] at hf ⊢
  by_cases c:rL n e≤e
  · rw [if_pos c] at hf ⊢
    obtain ⟨d,hd⟩:∃ d:Nat,e-rL n e=(d:Int):=⟨(e-rL n e).toNat,by omega⟩
    have hd2:(e-rL n e).toNat=d:=by omega
    rw [hd2] at hf ⊢
    have hbl:blN (n*2^d)=blN n+d:=blN_shift _ _ h0
    by_cases g:blN (n*2^d)≤53
    · have h1:n*2^d<9007199254740992:=by have:=blN_le.1 g;simpa using this
      have h2:4503599627370496≤n*2^d∨rL n e = -1074:=by
        by_cases q:rL n e = -1074
        · exact .inr q
        · left
          have:blN (n*2^d)=53:=by unfold rL at q hd;omega
          have hne:n*2^d≠0:=Nat.mul_ne_zero h0 (Nat.ne_of_gt (Nat.two_pow_pos d))
          have hb:=blN_log hne
          have hlog:2^(n*2^d).log2≤n*2^d:=Nat.log2_self_le hne
          rw [show (n*2^d).log2=52 by omega] at hlog
          simpa using hlog
      obtain ⟨r,r1,r2,r3⟩:=word (n*2^d) (by omega) h2 hf
      refine ⟨r,r1,r2,.inl ?_⟩
      rw [r3,Nat.mul_assoc,← Nat.pow_add]
      congr 2;omega
    · exfalso
      unfold rL at hd
      omega
  · rw [if_neg c] at hf ⊢
    obtain ⟨d,hd⟩:∃ d:Nat,rL n e-e=(d:Int):=⟨(rL n e-e).toNat,by omega⟩
    have hd2:(rL n e-e).toNat=d:=by omega
    have hd1:1≤d:=by omega
    rw [hd2] at hf ⊢
    have hp:=Nat.two_pow_pos d
    have hbl:blN n≤d+53:=by unfold rL at hd;omega
    have hle:cutV s n d 0≤2^53:=cutV_le s 0 hbl
    have hge:4503599627370496≤cutV s n d 0∨rL n e = -1074:=by
      by_cases q:rL n e = -1074
      · exact .inr q
      · left
        have hb:=blN_log h0
        have hlog:2^n.log2≤n:=Nat.log2_self_le h0
        have:n.log2=52+d:=by unfold rL at hd q;omega
        rw [this,Nat.pow_add] at hlog
        have h1:2^52≤n/2^d:=(Nat.le_div_iff_mul_le hp).2 hlog
        have e52:(2:Nat)^52=4503599627370496:=by decide
        unfold cutV
        omega
    obtain ⟨r,r1,r2,r3⟩:=word (cutV s n d 0) (by simpa using hle) hge hf
    refine ⟨r,r1,r2,.inr ⟨by unfold rL at c;omega,?_⟩⟩
    obtain ⟨k1,k2⟩:=cut_half s (n:=n) hd1
    have ew:vmag r*2^(K-1074)=cutV s n d 0*2^d*2^(e+K).toNat:=by
      rw [r3,Nat.mul_assoc,← Nat.pow_add]
      congr 2;omega
    -- one place, in units
    have place:2^d*2^(e+K).toNat*2^52≤n*2^(e+K).toNat+(if -1074≤e+(blN n:Int)-53 then 0 else 2^(K-1074+52)):=by
      by_cases q : -1074≤e+(blN n:Int)-53
      · rw [if_pos q,Nat.add_zero]
        have hb:=blN_log h0
        have hlog:2^n.log2≤n:=Nat.log2_self_le h0
        have:n.log2=d+52:=by unfold rL at hd;omega
        rw [this,Nat.pow_add] at hlog
        rw [Nat.mul_right_comm]
        exact Nat.mul_le_mul_right _ hlog
      · rw [if_neg q,← Nat.pow_add,← Nat.pow_add,show d+(e+K).toNat+52=K-1074+52 by unfold rL at hd;omega]
        exact Nat.le_add_left _ _
    rw [ew]
    generalize cutV s n d 0*2^d=C at *
    generalize (if -1074≤e+(blN n:Int)-53 then 0 else 2^(K-1074+52))=Z at *
    generalize 2^(e+K).toNat=U at *
    generalize 2^d=D at *
    refine ⟨Nat.le_trans ?_ place,Nat.le_trans ?_ place⟩
    · refine Nat.mul_le_mul_right _ ?_
      rw [← Nat.sub_mul,Nat.mul_right_comm]
      exact Nat.mul_le_mul_right _ k1
    · refine Nat.mul_le_mul_right _ ?_
      rw [← Nat.sub_mul,Nat.mul_right_comm]
      exact Nat.mul_le_mul_right _ k2
end Go.Eng
/-
  How far a rounded quotient is from the exact one. No condition.
-/
set_option maxRecDepth 100000
set_option maxHeartbeats 400000
set_option exponentiation.threshold 70000
namespace Go.Eng
open Go
theorem two_errs {w q n y a z:Nat} {P:Nat} (h1:(w-q)*P≤q+a) (h2:(q-w)*P≤q+a) (k1:(q*n-y)*P≤y) (k2:(y-q*n)*P≤y) (hz:q*n+y≤z) :
    (w*n-y)*P≤z+a*n∧(y-w*n)*P≤z+a*n:=by
  have a1:(w-q)*n*P≤q*n+a*n:=by
    rw [Nat.mul_right_comm,← Nat.add_mul];exact Nat.mul_le_mul_right _ h1
  have a2:(q-w)*n*P≤q*n+a*n:=by
    rw [Nat.mul_right_comm,← Nat.add_mul];exact Nat.mul_le_mul_right _ h2
  rw [Nat.sub_mul w q n] at a1
  rw [Nat.sub_mul q w n] at a2
  have b1:w*n-y≤(w*n-q*n)+(q*n-y):=by omega
  have b2:y-w*n≤(y-q*n)+(q*n-w*n):=by omega
  have c1:=Nat.mul_le_mul_right P b1
  have c2:=Nat.mul_le_mul_right P b2
  rw [Nat.add_mul] at c1 c2
  omega
theorem quo_near {D n:Nat} (hn:n≠0):((2*(D/n)+(D%n != 0).toNat)*n-2*D≤n)∧(2*D-(2*(D/n)+(D%n != 0).toNat)*n≤n):=by
  have hdm:=Nat.div_add_mod D n
  have hlt:=Nat.mod_lt D (Nat.pos_of_ne_zero hn)
  generalize D/n=q at *
  generalize D%n=r at *
  have e1:2*q*n=2*(n*q):=by rw [Nat.mul_assoc,Nat.mul_comm q n]
  rw [Nat.add_mul,e1]
  generalize n*q=t at *
  by_cases c:r=0
  · have e:(r != 0)=false:=by simp [c]
    rw [e]
    show 2*t+0*n-2*D≤n∧2*D-(2*t+0*n)≤n
    omega
  · have e:(r != 0)=true:=by simp [c]
    rw [e]
    show 2*t+1*n-2*D≤n∧2*D-(2*t+1*n)≤n
    omega
theorem sum3 {y u v:Nat} (h1:v≤y+u) (h2:u≤y):v+y≤3*y:=by omega
theorem last0 {T y u a b:Nat} (hT:0<T) (h:(a*T-b*T)*2^53≤3*(y*T)+2^52*T*u):(a-b)*2^53≤3*y+2^52*u:=by
  refine Nat.le_of_mul_le_mul_right (c:=T) ?_ hT
  rw [Nat.add_mul,Nat.mul_right_comm,Nat.sub_mul,Nat.mul_assoc 3,Nat.mul_right_comm _ u]
  exact h
theorem last1 {T y u v:Nat} (hT:0<T) (h:(v*T*u-y*T)*2^53≤3*(y*T)+2^52*T*u):(v*u-y)*2^53≤3*y+2^52*u:=
  last0 hT (by rw [Nat.mul_right_comm v u];exact h)
theorem last2 {T y u v:Nat} (hT:0<T) (h:(y*T-v*T*u)*2^53≤3*(y*T)+2^52*T*u):(y-v*u)*2^53≤3*y+2^52*u:=
  last0 hT (by rw [Nat.mul_right_comm v u];exact h)
theorem fdiv_err {x d:Nat} (hx:magF x<9218868437227405312) (hd:magF d<9218868437227405312) (x0:magF x≠0) (d0:magF d≠0) (hf:magF (fdiv x d)<9218868437227405312) :
    ∃ r,fdiv x d=Ieee.double.word (negF x ^^ negF d) r∧r<9218868437227405312 ∧
      (vmag r*vmag (magF d)-vmag (magF x)*2^1074)*2^53≤3*(vmag (magF x)*2^1074)+2^52*vmag (magF d) ∧
      (vmag (magF x)*2^1074-vmag r*vmag (magF d))*2^53≤3*(vmag (magF x)*2^1074)+2^52*vmag (magF d):=by
  obtain ⟨m,i,hr,hm⟩:=read_fin hx
  obtain ⟨n,j,hq,hn⟩:=read_fin hd
  have vx0:vmag (magF x)≠0:=fun k=>x0 ((vmag_zero _).1 k)
  have vd0:vmag (magF d)≠0:=fun k=>d0 ((vmag_zero _).1 k)
  have hm0:m≠0:=fun k=>vx0 (by rw [← hm,k,Nat.zero_mul])
  have hn0:n≠0:=fun k=>vd0 (by rw [← hn,k,Nat.zero_mul])
  have ub:∀ {y:Nat},magF y<9218868437227405312→vmag (magF y)<2^2098:=fun h=>by
    have e:vmag 9218868437227405312=2^2098:=by decide +kernel
    have:=vmag_lt h
    rw [e] at this
    exact this
  have hi:m.log2+i<2098:=by
    have:=ub hx
    rw [← hm] at this
    have h2:2^(m.log2+i)<2^2098:=by
      rw [Nat.pow_add]
      exact Nat.lt_of_le_of_lt (Nat.mul_le_mul_right _ (Nat.log2_self_le hm0)) this
    exact (Nat.pow_lt_pow_iff_right (by omega)).1 h2
  have hj:n.log2+j<2098:=by
    have:=ub hd
    rw [← hn] at this
    have h2:2^(n.log2+j)<2^2098:=by
      rw [Nat.pow_add]
      exact Nat.lt_of_le_of_lt (Nat.mul_le_mul_right _ (Nat.log2_self_le hn0)) this
    exact (Nat.pow_lt_pow_iff_right (by omega)).1 h2
  obtain ⟨mo,hmo⟩:∃ mo,54+n.log2-m.log2=mo:=⟨_,rfl⟩
  obtain ⟨Q,hQ⟩:∃ Q,2*(m*2^mo/n)+(m*2^mo%n != 0).toNat=Q:=⟨_,rfl⟩
  have e1:fdiv x d=Ieee.double.nearest (negF x ^^ negF d) Q ((i:Int)-j-mo-1):=by
    unfold fdiv Ieee.Format.div
    rw [hr,hq,fb]
    simp only [Ieee.Datum.quotient,if_neg hn0,Option.map_some,Option.getD_some]
    rw [show 52+2+n.log2-m.log2=mo by omega,Nat.shiftLeft_eq,hQ]
    rw [show -1074+(i:Int)-(-1074+(j:Int))-(mo:Int)-1=(i:Int)-j-mo-1 by omega]
    rfl
  obtain ⟨q1,q2⟩:=quo_near (D:=m*2^mo) hn0
  rw [hQ] at q1 q2
  -- much more than the divisor
  have hbig:n*2^53≤m*2^mo:=by
    have h1:2^m.log2≤m:=Nat.log2_self_le hm0
    have h2:n<2^(n.log2+1):=Nat.lt_log2_self
    have h3:2^(n.log2+54)≤2^(m.log2+mo):=Nat.pow_le_pow_right (by omega) (by omega)
    have h4:2^(m.log2+mo)≤m*2^mo:=by rw [Nat.pow_add];exact Nat.mul_le_mul_right _ h1
    have h5:n*2^53≤2^(n.log2+1)*2^53:=Nat.mul_le_mul_right _ (Nat.le_of_lt h2)
    rw [← Nat.pow_add] at h5
    exact Nat.le_trans h5 (Nat.le_trans h3 h4)
  have hQ0:Q≠0:=fun k=>by
    rw [k,Nat.zero_mul] at q2
    have:1≤n:=by omega
    have e53:(2:Nat)^53=9007199254740992:=by decide
    rw [e53] at hbig
    omega
  rw [e1,near_rF _ _ hQ0] at hf ⊢
  have hmol:mo≤2200:=by omega
  obtain ⟨r,r1,r2,r3⟩:=rF_err (negF x ^^ negF d) (K:=8000) hQ0 (by omega) (by omega) hf
  refine ⟨r,r1,r2,?_⟩
  obtain ⟨E,hE⟩:∃ E,((i:Int)-j-mo-1+(8000:Nat)).toNat=E:=⟨_,rfl⟩
  have hEj:1+mo+(E+j)=i+8000:=by omega
  rw [hE] at r3
  -- both cases as one
  have w1:(vmag r*2^(8000-1074)-Q*2^E)*2^53≤Q*2^E+2^(8000-1074+52):=by
    rcases r3 with h | ⟨_,h,_⟩
    · rw [h,Nat.sub_self,Nat.zero_mul];exact Nat.zero_le _
    · rw [show (2:Nat)^53=2*2^52 by decide,← Nat.mul_assoc]
      refine Nat.le_trans h (Nat.add_le_add_left ?_ _)
      split
      · exact Nat.zero_le _
      · exact Nat.le_refl _
  have w2:(Q*2^E-vmag r*2^(8000-1074))*2^53≤Q*2^E+2^(8000-1074+52):=by
    rcases r3 with h | ⟨_,_,h⟩
    · rw [h,Nat.sub_self,Nat.zero_mul];exact Nat.zero_le _
    · rw [show (2:Nat)^53=2*2^52 by decide,← Nat.mul_assoc]
      refine Nat.le_trans h (Nat.add_le_add_left ?_ _)
      split
      · exact Nat.zero_le _
      · exact Nat.le_refl _
  -- the exact one
  have eX:Q*2^E*(n*2^j)=Q*n*2^(E+j):=by
    rw [Nat.pow_add,Nat.mul_mul_mul_comm]
  have pe:(2:Nat)^(i+8000)=2*2^mo*2^(E+j):=by
    rw [← hEj,Nat.pow_add,Nat.pow_add 2 1 mo,Nat.pow_one]
  have eY:2*(m*2^mo)*2^(E+j)=m*2^i*2^8000:=by
    rw [Nat.mul_assoc m,← Nat.pow_add,pe]
    generalize 2^mo=a
    generalize 2^(E+j)=b
    ac_rfl
  have small:n*2^(E+j)*2^53≤m*2^i*2^8000:=by
    rw [← eY,Nat.mul_right_comm]
    refine Nat.mul_le_mul_right _ (Nat.le_trans hbig ?_)
    exact Nat.le_mul_of_pos_left _ (by decide)
  have k1:(Q*2^E*(n*2^j)-m*2^i*2^8000)*2^53≤m*2^i*2^8000:=by
    refine Nat.le_trans (Nat.mul_le_mul_right _ ?_) small
    rw [eX,← eY,← Nat.sub_mul]
    exact Nat.mul_le_mul_right _ q1
  have k2:(m*2^i*2^8000-Q*2^E*(n*2^j))*2^53≤m*2^i*2^8000:=by
    refine Nat.le_trans (Nat.mul_le_mul_right _ ?_) small
    rw [eX,← eY,← Nat.sub_mul]
    exact Nat.mul_le_mul_right _ q2
  have hz:Q*2^E*(n*2^j)+m*2^i*2^8000≤3*(m*2^i*2^8000):=by
    have h1:Q*2^E*(n*2^j)≤m*2^i*2^8000+n*2^(E+j):=by
      rw [eX,← eY,← Nat.add_mul]
      exact Nat.mul_le_mul_right _ (by omega)
    have h2:n*2^(E+j)≤m*2^i*2^8000:=Nat.le_trans (Nat.le_mul_of_pos_right _ (by decide)) small
    exact sum3 h1 h2
  obtain ⟨f1,f2⟩:=two_errs w1 w2 k1 k2 hz
  rw [hm,hn] at f1 f2
  have e8:∀ v:Nat,v*2^8000=v*2^1074*2^(8000-1074):=fun v=>by
    rw [Nat.mul_assoc,← Nat.pow_add]
  have e9:(2:Nat)^(8000-1074+52)=2^52*2^(8000-1074):=by rw [← Nat.pow_add]
  rw [e8,e9] at f1 f2
  have hT:=Nat.two_pow_pos (8000-1074)
  exact ⟨last1 hT f1,last2 hT f2⟩
end Go.Eng
/-
  Rounded products and differences against the exact ones, with signs. No condition.
-/
set_option maxRecDepth 100000
set_option maxHeartbeats 400000
set_option exponentiation.threshold 70000
namespace Go.Eng
open Go
theorem sval_wr (s:Bool) {r:Nat} (h:r≤9218868437227405312):sval (Ieee.double.word s r)=sgN s (vmag r):=by
  unfold sval sgN
  rw [mag_word h,neg_word h]
theorem sgN_abs' (z:Int):sgN (decide (z<0)) z.natAbs=z:=by
  unfold sgN
  by_cases h:z<0
  · rw [decide_eq_true h,if_pos rfl];omega
  · rw [decide_eq_false h,if_neg (by decide)];omega
theorem sgN_diff (s:Bool) (a b:Nat):(sgN s a-sgN s b).natAbs=(a-b)+(b-a):=by
  unfold sgN
  cases s<;>simp<;>omega
theorem diff_le {a b P c:Nat} (h1:(a-b)*P≤c) (h2:(b-a)*P≤c):((a-b)+(b-a))*P≤c:=by
  rcases Nat.le_total a b with h | h
  · rw [Nat.sub_eq_zero_of_le h,Nat.zero_add];exact h2
  · rw [Nat.sub_eq_zero_of_le h,Nat.add_zero];exact h1
theorem fmul_nought {x y:Nat} (hx:magF x<9218868437227405312) (hy:magF y<9218868437227405312) (h:sval x*sval y=0):magF (fmul x y)=0:=by
  obtain ⟨m,a,hr,hv⟩:=read_fin hx
  obtain ⟨n,b,hs,hw⟩:=read_fin hy
  have z:m*n=0:=by
    rcases Int.mul_eq_zero.1 h with k | k
    · have:=(sval_zero x).1 k
      rw [this] at hv
      have v0:vmag 0=0:=by decide +kernel
      rw [v0] at hv
      rcases Nat.mul_eq_zero.1 hv with q | q
      · rw [q,Nat.zero_mul]
      · exact absurd q (Nat.ne_of_gt (Nat.two_pow_pos a))
    · have:=(sval_zero y).1 k
      rw [this] at hw
      have v0:vmag 0=0:=by decide +kernel
      rw [v0] at hw
      rcases Nat.mul_eq_zero.1 hw with q | q
      · rw [q,Nat.mul_zero]
      · exact absurd q (Nat.ne_of_gt (Nat.two_pow_pos b))
  rw [fmul_num hr hs,z,nearest_zero]
  exact mag_word (by omega)
theorem fmul_err {x y:Nat} (hx:magF x<9218868437227405312) (hy:magF y<9218868437227405312) (hf:magF (fmul x y)<9218868437227405312) :
    (sval (fmul x y)*((2^1074:Nat):Int)-sval x*sval y).natAbs*2^53≤(sval x*sval y).natAbs+2^1126:=by
  by_cases h:sval x*sval y=0
  · rw [(sval_zero _).2 (fmul_nought hx hy h),h,Int.zero_mul]
    simp
  · have e:=fmul_v hx hy h
    rw [e] at hf ⊢
    generalize sval x*sval y=z at *
    unfold rV at hf ⊢
    obtain ⟨r,r1,r2,r3⟩:=rF_err (decide (z<0)) (n:=z.natAbs) (e := -2148) (K:=2148) (by omega) (by omega) (by omega) hf
    rw [r1,sval_wr _ (by omega)]
    have e0:((-2148:Int)+(2148:Nat)).toNat=0:=by decide
    rw [e0,Nat.pow_zero,Nat.mul_one,show 2148-1074=1074 from rfl,show 1074+52=1126 from rfl] at r3
    have ez:sgN (decide (z<0)) (vmag r)*((2^1074:Nat):Int)-z=sgN (decide (z<0)) (vmag r*2^1074)-sgN (decide (z<0)) z.natAbs:=by
      rw [sgN_abs']
      congr 1
      unfold sgN
      split<;>simp [Int.neg_mul]
    rw [ez,sgN_diff]
    rcases r3 with k | ⟨_,k1,k2⟩
    · rw [k,Nat.sub_self,Nat.zero_add,Nat.zero_mul];exact Nat.zero_le _
    · have e53:∀ a:Nat,a*2^53=a*2*2^52:=fun a=>by rw [Nat.mul_assoc]
      refine diff_le ?_ ?_
      · rw [e53]
        refine Nat.le_trans k1 (Nat.add_le_add_left ?_ _)
        split
        · exact Nat.zero_le _
        · exact Nat.le_refl _
      · rw [e53]
        refine Nat.le_trans k2 (Nat.add_le_add_left ?_ _)
        split
        · exact Nat.zero_le _
        · exact Nat.le_refl _
theorem fsub_err {x y:Nat} (hx:magF x<9218868437227405312) (hy:magF y<9218868437227405312) (hf:magF (fsub x y)<9218868437227405312) :
    (sval (fsub x y)-(sval x-sval y)).natAbs*2^53≤(sval x-sval y).natAbs:=by
  have hn:sval (fneg y) = - sval y:=by
    unfold sval
    rw [fneg_mag,fneg_neg]
    cases negF y<;>simp
  have hy':magF (fneg y)<9218868437227405312:=by rw [fneg_mag];exact hy
  rw [fsub_fneg hy] at hf ⊢
  by_cases h:sval x+sval (fneg y)=0
  · have z:magF (fadd x (fneg y))=0:=by rw [fadd_mag_zero hx hy'];exact h
    rw [(sval_zero _).2 z]
    rw [hn] at h
    have:sval x-sval y=0:=by omega
    rw [this];simp
  · have e:=fadd_v hx hy' h
    rw [e] at hf ⊢
    have es:sval x-sval y=sval x+sval (fneg y):=by rw [hn];omega
    rw [es]
    generalize sval x+sval (fneg y)=z at *
    unfold rV at hf ⊢
    obtain ⟨r,r1,r2,r3⟩:=rF_err (decide (z<0)) (n:=z.natAbs) (e := -1074) (K:=1074) (by omega) (by omega) (by omega) hf
    rw [r1,sval_wr _ (by omega)]
    have e0:((-1074:Int)+(1074:Nat)).toNat=0:=by decide
    rw [e0,Nat.sub_self] at r3
    simp only [Nat.pow_zero,Nat.mul_one] at r3
    have ez:sgN (decide (z<0)) (vmag r)-z=sgN (decide (z<0)) (vmag r)-sgN (decide (z<0)) z.natAbs:=by rw [sgN_abs']
    rw [ez,sgN_diff]
    rcases r3 with k | ⟨k0,k1,k2⟩
    · rw [k,Nat.sub_self,Nat.zero_add,Nat.zero_mul];exact Nat.zero_le _
    · have e53:∀ a:Nat,a*2^53=a*2*2^52:=fun a=>by rw [Nat.mul_assoc]
      have hc : -1074 ≤ -1074+(blN z.natAbs:Int)-53:=by
        rcases k0 with k | k
        · exact k
        · exact absurd k (by decide)
      rw [if_pos hc,Nat.add_zero] at k1 k2
      exact diff_le (by rw [e53];exact k1) (by rw [e53];exact k2)
end Go.Eng
/-
  The errors of a factor's sums, over whole numbers. No condition.
-/
set_option maxRecDepth 100000
set_option maxHeartbeats 400000
namespace Go.Eng
open Go
theorem tri_nat {X x1 x2 a v G E U Q:Nat} (hX:X≤x1*U+a*x2) (h1:x1*Q≤a*v+E) (h2:x2*Q≤G+E) (hv:v*U≤G+x2) :
    X*Q*Q≤a*G*(2*Q+1)+a*E*(Q+1)+Q*E*U:=by
  have s1:X*Q≤(a*v+E)*U+a*(G+E):=by
    refine Nat.le_trans (Nat.mul_le_mul_right Q hX) ?_
    rw [Nat.add_mul]
    refine Nat.add_le_add ?_ ?_
    · rw [Nat.mul_right_comm];exact Nat.mul_le_mul_right _ h1
    · rw [Nat.mul_assoc];exact Nat.mul_le_mul_left _ h2
  have s2:v*U*Q≤G*Q+(G+E):=by
    refine Nat.le_trans (Nat.mul_le_mul_right Q hv) ?_
    rw [Nat.add_mul]
    exact Nat.add_le_add_left h2 _
  have s3:a*(v*U*Q)≤a*(G*Q+(G+E)):=Nat.mul_le_mul_left _ s2
  have s4:=Nat.mul_le_mul_right Q s1
  have e1:((a*v+E)*U+a*(G+E))*Q=a*(v*U*Q)+Q*E*U+(a*G*Q+a*E*Q):=by
    simp only [Nat.add_mul,Nat.mul_add]
    have p1:a*v*U*Q=a*(v*U*Q):=by ac_rfl
    have p2:E*U*Q=Q*E*U:=by ac_rfl
    rw [p1,p2]
  have e2:a*(G*Q+(G+E))=a*G*Q+(a*G+a*E):=by
    simp only [Nat.mul_add]
    rw [Nat.mul_assoc a G Q]
  have e3:a*G*(2*Q+1)=2*(a*G*Q)+a*G:=by
    rw [Nat.mul_add,Nat.mul_one]
    congr 1;ac_rfl
  have e4:a*E*(Q+1)=a*E*Q+a*E:=by rw [Nat.mul_add,Nat.mul_one]
  rw [e1] at s4
  rw [e2] at s3
  rw [e3,e4]
  omega
theorem tri_err {l d g V P:Int} {U E Q:Nat} (h1:(V*(U:Int)-g*d).natAbs*Q≤(g*d).natAbs+E) (h2:(P*(U:Int)-l*V).natAbs*Q≤(l*V).natAbs+E) :
    (P*(U:Int)*(U:Int)-l*d*g).natAbs*Q*Q≤(l*d*g).natAbs*(2*Q+1)+l.natAbs*E*(Q+1)+Q*E*U:=by
  have e:P*(U:Int)*(U:Int)-l*d*g=(P*(U:Int)-l*V)*(U:Int)+l*(V*(U:Int)-g*d):=by
    rw [Int.sub_mul,Int.mul_sub]
    have p1:l*V*(U:Int)=l*(V*(U:Int)):=by ac_rfl
    have p2:l*d*g=l*(g*d):=by ac_rfl
    rw [p1,p2];omega
  have eg:(l*d*g).natAbs=l.natAbs*(g*d).natAbs:=by
    rw [← Int.natAbs_mul]
    congr 1;ac_rfl
  rw [eg]
  refine tri_nat (x1:=(P*(U:Int)-l*V).natAbs) (x2:=(V*(U:Int)-g*d).natAbs) (v:=V.natAbs) ?_ ?_ h1 ?_
  · rw [e]
    refine Nat.le_trans (Int.natAbs_add_le _ _) ?_
    rw [Int.natAbs_mul,Int.natAbs_mul,Int.natAbs_natCast]
    exact Nat.le_refl _
  · rw [← Int.natAbs_mul];exact h2
  · have:(V*(U:Int)).natAbs≤(g*d).natAbs+(V*(U:Int)-g*d).natAbs:=by omega
    rw [Int.natAbs_mul,Int.natAbs_natCast] at this
    exact this
def psum (P:Nat→Int):Nat→Int
  | 0=>0
  | k+1=>psum P k+P k
def asum (P:Nat→Nat):Nat→Nat
  | 0=>0
  | k+1=>asum P k+P k
theorem mid_le {S P:Nat→Int} {j:Nat} (hj:j≤8) (h:∀ k,k<j→(S (k+1)-(S k-P k)).natAbs*2^53≤(S k-P k).natAbs) :
    ∀ i,i≤j→(S (j-i)).natAbs*16+16*asum (fun k=>(P k).natAbs) (j-i)≤(16+i)*((S j).natAbs+asum (fun k=>(P k).natAbs) j)
  | 0,_=>by rw [Nat.sub_zero];omega
  | i+1,hi=>by
    have ih:=mid_le hj h i (by omega)
    obtain ⟨k,hk⟩:∃ k,j-(i+1)=k:=⟨_,rfl⟩
    have hk1:j-i=k+1:=by omega
    have hs:=h k (by omega)
    rw [hk1] at ih
    rw [hk]
    have e:asum (fun k=>(P k).natAbs) (k+1)=asum (fun k=>(P k).natAbs) k+(P k).natAbs:=rfl
    rw [e] at ih
    have e53:(2:Nat)^53=9007199254740992:=by decide
    rw [e53] at hs
    have t1:(S k).natAbs≤(S k-P k).natAbs+(P k).natAbs:=by omega
    have t2:(S k-P k).natAbs≤(S (k+1)).natAbs+(S (k+1)-(S k-P k)).natAbs:=by omega
    have hM:(S (k+1)).natAbs≤2*((S j).natAbs+asum (fun k=>(P k).natAbs) j):=by
      have:(16+i)*((S j).natAbs+asum (fun k=>(P k).natAbs) j)≤32*((S j).natAbs+asum (fun k=>(P k).natAbs) j):=Nat.mul_le_mul_right _ (by omega)
      omega
    rw [show 16+(i+1)=16+i+1 by omega,Nat.add_mul (16+i),Nat.one_mul]
    generalize (16+i)*((S j).natAbs+asum (fun k=>(P k).natAbs) j)=Z at *
    generalize (S j).natAbs+asum (fun k=>(P k).natAbs) j=M at *
    generalize asum (fun k=>(P k).natAbs) k=A at *
    omega
theorem tele {S P:Nat→Int}:∀ j,S 0-psum P j-S j=psum (fun k=>S k-P k-S (k+1)) j
  | 0=>by simp [psum]
  | j+1=>by
    have:=tele (S:=S) (P:=P) j
    show S 0-(psum P j+P j)-S (j+1)=psum (fun k=>S k-P k-S (k+1)) j+(S j-P j-S (j+1))
    omega
theorem psum_abs (z:Nat→Int):∀ n,(psum z n).natAbs≤asum (fun k=>(z k).natAbs) n
  | 0=>by simp [psum,asum]
  | n+1=>by
    have:=psum_abs z n
    show (psum z n+z n).natAbs≤asum (fun k=>(z k).natAbs) n+(z n).natAbs
    omega
theorem one_lost0 {x y s A M t:Nat} (h:4*t≤y) (l:x≤t) (h2:y≤s+x) (h3:s*16+16*A≤32*M):t≤M:=by omega
theorem one_lost {x y s A M:Nat} (h:x*2^53≤y) (h2:y≤s+x) (h3:s*16+16*A≤32*M):x*2^51≤M:=by
  have e:4*(x*2^51)=x*2^53:=by
    rw [show (2:Nat)^53=2^51*4 by decide]
    generalize 2^51=q
    ac_rfl
  exact one_lost0 (by rw [e];exact h) (Nat.le_mul_of_pos_right _ (by decide)) h2 h3
theorem lost_le {S P:Nat→Int} {j:Nat} (hj:j≤8) (h:∀ k,k<j→(S (k+1)-(S k-P k)).natAbs*2^53≤(S k-P k).natAbs) :
    (S 0-psum P j-S j).natAbs*2^51≤j*((S j).natAbs+asum (fun k=>(P k).natAbs) j):=by
  rw [tele]
  have each:∀ k,k<j→(S k-P k-S (k+1)).natAbs*2^51≤(S j).natAbs+asum (fun k=>(P k).natAbs) j:=fun k hk=>by
    have m:=mid_le hj h (j-(k+1)) (by omega)
    rw [show j-(j-(k+1))=k+1 by omega] at m
    have hs:=h k hk
    have hM:(16+(j-(k+1)))*((S j).natAbs+asum (fun k=>(P k).natAbs) j)≤32*((S j).natAbs+asum (fun k=>(P k).natAbs) j):=Nat.mul_le_mul_right _ (by omega)
    have e:(S k-P k-S (k+1)).natAbs=(S (k+1)-(S k-P k)).natAbs:=by omega
    have t2:(S k-P k).natAbs≤(S (k+1)).natAbs+(S (k+1)-(S k-P k)).natAbs:=by omega
    rw [e]
    exact one_lost hs t2 (Nat.le_trans m hM)
  have key:∀ n,n≤j→asum (fun k=>(S k-P k-S (k+1)).natAbs) n*2^51≤n*((S j).natAbs+asum (fun k=>(P k).natAbs) j):=fun n=>by
    induction n with
    | zero=>intro _;simp [asum]
    | succ n ih=>
      intro hn
      have:=ih (by omega)
      have e:=each n (by omega)
      show (asum (fun k=>(S k-P k-S (k+1)).natAbs) n+(S n-P n-S (n+1)).natAbs)*2^51≤_
      rw [Nat.add_mul,Nat.succ_mul]
      exact Nat.add_le_add this e
  exact Nat.le_trans (Nat.mul_le_mul_right _ (psum_abs _ j)) (key j (Nat.le_refl _))
end Go.Eng
/-
  The errors of a factor's sums put together, over whole numbers. No condition.
-/
set_option maxRecDepth 100000
set_option maxHeartbeats 400000
namespace Go.Eng
open Go
theorem near_lin {j d st se f dU sl u dC x:Nat} (hj:j≤8)
    (h1:d≤j*(2*f+dU)+j*(st+se)) (h2:16*se≤st+(sl+j*u)) (h3:x≤2*f+dU+dC) (h4:9*dU≤dC) {se2:Nat} (h5:se2≤st+(sl+j*u)) :
    d+se2+x≤2*((j+2)*(st+f+8*(u+sl+dC))):=by
  have b1:j*se≤8*se:=Nat.mul_le_mul_right _ hj
  have b2:j*dU≤8*dU:=Nat.mul_le_mul_right _ hj
  have e1:j*(2*f+dU)=2*(j*f)+j*dU:=by rw [Nat.mul_add,Nat.mul_left_comm]
  have e2:j*(st+se)=j*st+j*se:=Nat.mul_add ..
  have e3:(j+2)*(st+f+8*(u+sl+dC))=j*st+j*f+8*(j*u+j*sl+j*dC)+2*(st+f+8*(u+sl+dC)):=by
    rw [Nat.add_mul,Nat.mul_add j,Nat.mul_add j,Nat.mul_left_comm j 8,Nat.mul_add j,Nat.mul_add j]
  rw [e1,e2] at h1
  rw [e3]
  generalize j*st=q1 at *
  generalize j*f=q2 at *
  generalize j*u=q3 at *
  generalize j*sl=q4 at *
  generalize j*dC=q5 at *
  generalize j*dU=q6 at *
  generalize j*se=q7 at *
  clear e1 e2 e3
  omega
theorem near_nat {j D1 Mj AP ST SE SL U F Dj X2 q C:Nat} (hj:j≤8) (hq:8≤q) (hC:C=2*q*U)
    (h1:D1*(2*q)≤j*(Mj+AP)) (h2:AP*U*U≤ST+SE) (h3:SE*(2*q)≤ST+(SL+j*U)*C) (h4:X2*(8*q)≤3*(Mj*U)+4*q*Dj) (h5:Mj*U≤F+X2) :
    (D1*U*U+SE+X2*U)*q≤(j+2)*(ST+F*U+(U+SL+Dj)*(8*C)):=by
  -- X2 is at most F + Dj
  have x1:X2≤F+Dj:=by
    rcases Nat.lt_or_ge (F+Dj) X2 with g | g
    · exfalso
      have a1:X2*(8*q)=8*(X2*q):=by rw [Nat.mul_left_comm]
      have a2:4*q*Dj=4*(Dj*q):=by rw [Nat.mul_assoc,Nat.mul_comm q]
      have a3:(F+Dj+1)*q≤X2*q:=Nat.mul_le_mul_right _ g
      rw [Nat.add_mul,Nat.add_mul,Nat.one_mul] at a3
      have a4:F*8≤F*q:=Nat.mul_le_mul_left _ hq
      have a5:X2*8≤X2*q:=Nat.mul_le_mul_left _ hq
      rw [a1,a2] at h4
      omega
    · exact g
  have m1:Mj*U≤2*F+Dj:=by omega
  have m2:Mj*U*U≤2*(F*U)+Dj*U:=by
    have:=Nat.mul_le_mul_right U m1
    rw [Nat.add_mul,Nat.mul_assoc 2] at this
    exact this
  -- the three parts, twice
  have p1:D1*U*U*(2*q)≤j*(2*(F*U)+Dj*U)+j*(ST+SE):=by
    have e:D1*U*U*(2*q)=D1*(2*q)*(U*U):=by ac_rfl
    rw [e]
    refine Nat.le_trans (Nat.mul_le_mul_right _ h1) ?_
    have e2:j*(Mj+AP)*(U*U)=j*(Mj*U*U)+j*(AP*U*U):=by
      rw [Nat.mul_assoc,Nat.add_mul,Nat.mul_add,Nat.mul_assoc Mj,Nat.mul_assoc AP]
    rw [e2]
    exact Nat.add_le_add (Nat.mul_le_mul_left _ m2) (Nat.mul_le_mul_left _ h2)
  have e3:(SL+j*U)*C=SL*C+j*(U*C):=by rw [Nat.add_mul,Nat.mul_assoc]
  have p2:16*SE≤ST+(SL*C+j*(U*C)):=by
    rw [← e3]
    refine Nat.le_trans ?_ h3
    rw [Nat.mul_comm]
    exact Nat.mul_le_mul_left _ (by omega)
  have p3:X2*U*(2*q)≤2*(F*U)+Dj*U+Dj*C:=by
    have a1:X2*(8*q)=4*(X2*(2*q)):=by
      rw [show 8*q=4*(2*q) by omega,Nat.mul_left_comm]
    have a2:X2*(2*q)≤2*F+Dj+q*Dj:=by
      have:4*q*Dj=4*(q*Dj):=Nat.mul_assoc ..
      omega
    have a3:=Nat.mul_le_mul_right U a2
    have e:X2*(2*q)*U=X2*U*(2*q):=by ac_rfl
    rw [e,Nat.add_mul,Nat.add_mul,Nat.mul_assoc 2] at a3
    refine Nat.le_trans a3 (Nat.add_le_add_left ?_ _)
    rw [hC]
    have e4:Dj*(2*q*U)=2*(q*Dj*U):=by
      rw [Nat.mul_assoc 2,Nat.mul_left_comm]
      congr 1;ac_rfl
    rw [e4];omega
  have p4:9*(Dj*U)≤Dj*C:=by
    rw [hC]
    have e4:Dj*(2*q*U)=2*q*(Dj*U):=by ac_rfl
    rw [e4]
    exact Nat.mul_le_mul_right _ (by omega)
  have fin:=near_lin (j:=j) (d:=D1*U*U*(2*q)) (st:=ST) (se:=SE) (f:=F*U) (dU:=Dj*U) (sl:=SL*C) (u:=U*C) (dC:=Dj*C) (x:=X2*U*(2*q)) hj p1 p2 p3 p4 (se2:=SE*(2*q)) (by rw [← e3];exact h3)
  have e5:D1*U*U*(2*q)+SE*(2*q)+X2*U*(2*q)=2*((D1*U*U+SE+X2*U)*q):=by
    rw [← Nat.add_mul,← Nat.add_mul,Nat.mul_left_comm]
  have e6:(U+SL+Dj)*(8*C)=8*(U*C+SL*C+Dj*C):=by
    rw [Nat.mul_left_comm,Nat.add_mul,Nat.add_mul]
  rw [e5] at fin
  rw [e6]
  omega
end Go.Eng
/-
  What is reckoned to a finite number was reckoned from finite ones. No condition.
-/
set_option maxRecDepth 100000
set_option maxHeartbeats 400000
set_option exponentiation.threshold 5000
namespace Go.Eng
open Go
theorem far_read {x:Nat} (h : ¬ magF x<9218868437227405312):(∃ s,Ieee.double.read x = .infinity s)∨∃ s f,Ieee.double.read x = .nan s f:=by
  rcases Nat.lt_or_ge 9218868437227405312 (magF x) with c | c
  · exact .inr ⟨_,_,read_nan c⟩
  · exact .inl ⟨_,read_inf (by omega)⟩
theorem inf_far (s:Bool) : ¬ magF (Ieee.double.write (.infinity s))<9218868437227405312:=by
  show ¬ magF (Ieee.double.word s Ieee.double.infRung)<_
  rw [ir,mag_word (by omega)];omega
theorem qnan_far : ¬ magF qnan<9218868437227405312:=by decide +kernel
theorem sum_fin {a b:Ieee.Datum} (h:magF (((a.sum b).map Ieee.double.write).getD qnan)<9218868437227405312):(∃ s m e,a = .number s m e)∧∃ s m e,b = .number s m e:=by
  cases a with
  | nan s f=>exfalso;exact qnan_far (by simpa [Ieee.Datum.sum] using h)
  | infinity s=>
    exfalso
    cases b with
    | nan t f=>exact qnan_far (by simpa [Ieee.Datum.sum] using h)
    | infinity t=>
      by_cases c:s=t
      · rw [show (Ieee.Datum.infinity s).sum (.infinity t)=some (.infinity s) by simp [Ieee.Datum.sum,c]] at h
        exact inf_far s h
      · rw [show (Ieee.Datum.infinity s).sum (.infinity t)=none by simp [Ieee.Datum.sum,c]] at h
        exact qnan_far h
    | number t m e=>exact inf_far s h
  | number s m e=>
    refine ⟨⟨_,_,_,rfl⟩,?_⟩
    cases b with
    | nan t f=>exfalso;exact qnan_far (by simpa [Ieee.Datum.sum] using h)
    | infinity t=>exfalso;exact inf_far t h
    | number t n f=>exact ⟨_,_,_,rfl⟩
theorem prod_fin {a b:Ieee.Datum} (h:magF (((a.product b).map Ieee.double.write).getD qnan)<9218868437227405312):(∃ s m e,a = .number s m e)∧∃ s m e,b = .number s m e:=by
  cases a with
  | nan s f=>exfalso;exact qnan_far (by simpa [Ieee.Datum.product] using h)
  | infinity s=>
    exfalso
    cases b with
    | nan t f=>exact qnan_far (by simpa [Ieee.Datum.product] using h)
    | infinity t=>exact inf_far (s ^^ t) h
    | number t m e=>
      by_cases c:m=0
      · rw [show (Ieee.Datum.infinity s).product (.number t m e)=none by simp [Ieee.Datum.product,c]] at h
        exact qnan_far h
      · rw [show (Ieee.Datum.infinity s).product (.number t m e)=some (.infinity (s ^^ t)) by simp [Ieee.Datum.product,c]] at h
        exact inf_far _ h
  | number s m e=>
    refine ⟨⟨_,_,_,rfl⟩,?_⟩
    cases b with
    | nan t f=>exfalso;exact qnan_far (by simpa [Ieee.Datum.product] using h)
    | infinity t=>
      exfalso
      by_cases c:m=0
      · rw [show (Ieee.Datum.number s m e).product (.infinity t)=none by simp [Ieee.Datum.product,c]] at h
        exact qnan_far h
      · rw [show (Ieee.Datum.number s m e).product (.infinity t)=some (.infinity (t ^^ s)) by simp [Ieee.Datum.product,c,Bool.xor_comm]] at h
        exact inf_far _ h
    | number t n f=>exact ⟨_,_,_,rfl⟩
theorem read_near {x:Nat} (h:∃ s m e,Ieee.double.read x = .number s m e):magF x<9218868437227405312:=by
  obtain ⟨s,m,e,h⟩:=h
  rcases Nat.lt_or_ge (magF x) 9218868437227405312 with c | c
  · exact c
  · rcases far_read (x:=x) (by omega) with ⟨t,k⟩ | ⟨t,f,k⟩
    · rw [h] at k;cases k
    · rw [h] at k;cases k
theorem fmul_fin {x y:Nat} (h:magF (fmul x y)<9218868437227405312):magF x<9218868437227405312∧magF y<9218868437227405312:=by
  unfold fmul Ieee.Format.mul at h
  obtain ⟨a,b⟩:=prod_fin h
  exact ⟨read_near a,read_near b⟩
theorem fsub_fin {x y:Nat} (h:magF (fsub x y)<9218868437227405312):magF x<9218868437227405312∧magF y<9218868437227405312:=by
  unfold fsub Ieee.Format.sub at h
  obtain ⟨a,s,m,e,b⟩:=sum_fin h
  refine ⟨read_near a,?_⟩
  cases hr:Ieee.double.read y with
  | nan t f=>rw [hr] at b;cases b
  | infinity t=>rw [hr] at b;cases b
  | number t n f=>exact read_near ⟨_,_,_,hr⟩
end Go.Eng
