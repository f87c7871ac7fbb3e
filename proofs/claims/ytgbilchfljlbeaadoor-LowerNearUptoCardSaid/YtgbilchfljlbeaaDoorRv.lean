
/-
  Rounding hangs on the value alone: what a number, in units of a power of two, is rounded to. No condition.
-/
import Derived.Test.YtgbilchfljlbeaaDoorOf
set_option linter.all false
set_option maxRecDepth 100000
set_option maxHeartbeats 400000
set_option exponentiation.threshold 70000
namespace Go.Eng
open Go
theorem rL_shift {n:Nat} (k:Nat) (e:Int) (h:n≠0):rL (n*2^k) e=rL n (e+k):=by
  unfold rL
  rw [blN_shift _ _ h];omega
theorem half_shift (n c k:Nat):halfC (n*2^k) (c+k)=halfC n c:=by
  have hp:=Nat.two_pow_pos k
  unfold halfC
  rw [Nat.pow_add,Nat.mul_mod_mul_right]
  generalize n%2^c=r
  generalize 2^c=C
  generalize 2^k=P at *
  have e1:2*(r*P)<C*P↔2*r<C:=by
    rw [← Nat.mul_assoc];exact Nat.mul_lt_mul_right hp
  have e2:2*(r*P)=C*P↔2*r=C:=by
    rw [← Nat.mul_assoc];exact ⟨fun h=>Nat.eq_of_mul_eq_mul_right hp h,fun h=>by rw [h]⟩
  simp only [e1,e2]
theorem cutV_shift (s:Bool) (n c k:Nat) (m:Int):cutV s (n*2^k) (c+k) m=cutV s n c m:=by
  have hp:=Nat.two_pow_pos k
  unfold cutV
  rw [half_shift,Nat.pow_add,Nat.mul_div_mul_right _ _ hp,Nat.mul_mod_mul_right]
  have e:n%2^c*2^k≠0↔n%2^c≠0:=by
    constructor
    · intro h k;exact h (by rw [k,Nat.zero_mul])
    · intro h;exact Nat.mul_ne_zero h (by omega)
  simp only [e]
theorem cutV_exact (s:Bool) (n c k:Nat) (m:Int) (h:c≤k):cutV s (n*2^k) c m=n*2^(k-c):=by
  obtain ⟨d,rfl⟩:∃ d,k=c+d:=⟨k-c,by omega⟩
  have hp:=Nat.two_pow_pos c
  unfold cutV
  rw [Nat.pow_add,show n*(2^c*2^d)=n*2^d*2^c by ac_rfl,Nat.mul_div_cancel _ hp,Nat.mul_mod_left,if_neg (fun h=>h.1 rfl),Nat.add_sub_cancel_left];rfl
theorem rS_shift (s:Bool) {n:Nat} (k:Nat) (e m:Int) (h:n≠0):rS s (n*2^k) e m=rS s n (e+k) m:=by
  unfold rS
  rw [rL_shift k e h]
  by_cases c1:rL n (e+k)≤e
  · rw [if_pos c1,if_pos (by omega),Nat.mul_assoc,← Nat.pow_add]
    congr 2;omega
  · rw [if_neg c1]
    by_cases c2:rL n (e+k)≤e+k
    · rw [if_pos c2,cutV_exact _ _ _ _ _ (by omega)]
      congr 2;omega
    · rw [if_neg c2]
      have:(rL n (e+k)-e).toNat=(rL n (e+k)-(e+k)).toNat+k:=by omega
      rw [this,cutV_shift]
theorem rF_shift (s:Bool) (n k:Nat) (e m:Int):rF s (n*2^k) e m=rF s n (e+k) m:=by
  unfold rF
  by_cases h:n=0
  · subst h;rw [Nat.zero_mul,if_pos rfl,if_pos rfl]
  · rw [if_neg h,if_neg (Nat.mul_ne_zero h (by have:=Nat.two_pow_pos k;omega)),rS_shift s k e m h,rL_shift k e h]
def rV (z K m:Int):Nat:=rF (decide (z<0)) z.natAbs K m
theorem rV_shift (z:Int) (k:Nat) (K m:Int):rV (z*((2^k:Nat):Int)) K m=rV z (K+k) m:=by
  unfold rV
  rw [Int.natAbs_mul,Int.natAbs_natCast,rF_shift]
  have hp:(0:Int)<((2^k:Nat):Int):=by have:=Nat.two_pow_pos k;omega
  generalize ((2^k:Nat):Int)=P at hp
  have:decide (z*P<0)=decide (z<0):=by
    apply decide_eq_decide.2
    constructor
    · intro h
      rcases Int.lt_or_le z 0 with c | c
      · exact c
      · have:=Int.mul_nonneg c (Int.le_of_lt hp);omega
    · intro h;exact Int.mul_neg_of_neg_of_pos h hp
  rw [this]
theorem rF_sg (s:Bool) (n:Nat) (e m:Int):rF s n e m=rV (sgN s n) e m:=by
  unfold rV
  rw [sgN_abs]
  by_cases h:n=0
  · subst h;rfl
  · have:decide (sgN s n<0)=s:=by
      unfold sgN
      cases s
      · simp
      · simp;omega
    rw [this]
theorem cano_small {z e:Int} (hz:blN z.natAbs≤16384) (h1 : -40000≤e) (h2:e≤40000):∃ s l f,cano z e=(s,l,f,0)∧Gd s l f∧nD s l f=z*((2^(e+65536).toNat:Nat):Int):=by
  have sh:=cano_shift z e (e+65536).toNat
  have e1:e-(((e+65536).toNat:Nat):Int) = -65536:=by omega
  rw [e1] at sh
  rcases cano_out z e with h | ⟨s,l,f,h,hg,_⟩
  · exfalso
    unfold cano at h
    by_cases h0:z=0
    · rw [if_pos h0] at h
      have h4:(0:Int)=3:=congrArg (fun x:DyR=>x.2.2.2) h
      omega
    · rw [if_neg h0] at h
      unfold canoO at h
      have hn:z.natAbs≠0:=by omega
      have ht:=tzN_lt hn
      obtain ⟨k1,k2⟩:=tz_spec hn
      have hm:z.natAbs/2^tzN z.natAbs≠0:=by omega
      have hb:blN z.natAbs=blN (z.natAbs/2^tzN z.natAbs)+tzN z.natAbs:=by
        conv=>lhs;rw [k1]
        exact blN_shift _ _ hm
      rw [if_neg (by omega)] at h
      have h4:(0:Int)=3:=congrArg (fun x:DyR=>x.2.2.2) h
      omega
  · refine ⟨s,l,f,h,hg,?_⟩
    rw [h] at sh
    have:=(cano_num (k:=0) (by rw [show (-65536:Int)-((0:Nat):Int) = -65536 by omega];exact sh)).2
    rw [Nat.pow_zero] at this
    simpa using this
end Go.Eng
