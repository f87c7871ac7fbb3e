
/-
  Rounding hangs on the value alone: what a number, in units of a power of two, is rounded to. No condition.
-/
import Derived.Test.YtgbilchfljlbeaaGreatDoorOf
set_option linter.all false
set_option maxRecDepth 100000
set_option maxHeartbeats 400000
set_option exponentiation.threshold 70000
namespace Go.Eng
open Go
theorem Fk5 {n:Nat} (k:Nat) (e:Int) (h:n≠0):rL (n*2^k) e=rL n (e+k):=by
  unfold rL
  rw [Bf5 _ _ h];omega
theorem Fp1 (n c k:Nat):Ci8 (n*2^k) (c+k)=Ci8 n c:=by
  have hp:=Nat.two_pow_pos k
  unfold Ci8
  rw [Nat.pow_add,Nat.mul_mod_mul_right]
  generalize n%2^c=r
  generalize 2^c=C
  generalize 2^k=P at *
  have e1:2*(r*P)<C*P↔2*r<C:=by
    rw [← Nat.mul_assoc];exact Nat.mul_lt_mul_right hp
  have e2:2*(r*P)=C*P↔2*r=C:=by
    rw [← Nat.mul_assoc];exact ⟨fun h=>Nat.eq_of_mul_eq_mul_right hp h,fun h=>by rw [h]⟩
  simp only [e1,e2]
theorem Fn0 (s:Bool) (n c k:Nat) (m:Int):Fm9 s (n*2^k) (c+k) m=Fm9 s n c m:=by
  have hp:=Nat.two_pow_pos k
  unfold Fm9
  rw [Fp1,Nat.pow_add,Nat.mul_div_mul_right _ _ hp,Nat.mul_mod_mul_right]
  have e:n%2^c*2^k≠0↔n%2^c≠0:=by
    constructor
    · intro h k;exact h (by rw [k,Nat.zero_mul])
    · intro h;exact Nat.mul_ne_zero h (by omega)
  simp only [e]
theorem Fp9 (s:Bool) (n c k:Nat) (m:Int) (h:c≤k):Fm9 s (n*2^k) c m=n*2^(k-c):=by
  obtain ⟨d,rfl⟩:∃ d,k=c+d:=⟨k-c,by omega⟩
  have hp:=Nat.two_pow_pos c
  unfold Fm9
  rw [Nat.pow_add,show n*(2^c*2^d)=n*2^d*2^c by ac_rfl,Nat.mul_div_cancel _ hp,Nat.mul_mod_left,if_neg (fun h=>h.1 rfl),Nat.add_sub_cancel_left];rfl
theorem Gk0 (s:Bool) {n:Nat} (k:Nat) (e m:Int) (h:n≠0):rS s (n*2^k) e m=rS s n (e+k) m:=by
  unfold rS
  rw [Fk5 k e h]
  by_cases c1:rL n (e+k)≤e
  · rw [if_pos c1,if_pos (by omega),Nat.mul_assoc,← Nat.pow_add]
    congr 2;omega
  · rw [if_neg c1]
    by_cases c2:rL n (e+k)≤e+k
    · rw [if_pos c2,Fp9 _ _ _ _ _ (by omega)]
      congr 2;omega
    · rw [if_neg c2]
      have:(rL n (e+k)-e).toNat=(rL n (e+k)-(e+k)).toNat+k:=by omega
      rw [this,Fn0]
theorem Gj6 (s:Bool) (n k:Nat) (e m:Int):rF s (n*2^k) e m=rF s n (e+k) m:=by
  unfold rF
  by_cases h:n=0
  · subst h;rw [Nat.zero_mul,if_pos rfl,if_pos rfl]
  · rw [if_neg h,if_neg (Nat.mul_ne_zero h (by have:=Nat.two_pow_pos k;omega)),Gk0 s k e m h,Fk5 k e h]
def rV (z K m:Int):Nat:=rF (decide (z<0)) z.natAbs K m
theorem Ee1 (z:Int) (k:Nat) (K m:Int):rV (z*((2^k:Nat):Int)) K m=rV z (K+k) m:=by
  unfold rV
  rw [Int.natAbs_mul,Int.natAbs_natCast,Gj6]
  have hp:(0:Int)<((2^k:Nat):Int):=by have:=Nat.two_pow_pos k;omega
  generalize ((2^k:Nat):Int)=P at hp
  have:decide (z*P<0)=decide (z<0):=by
    apply decide_eq_decide.2
    constructor
    · intro h
      rcases Int.lt_or_le z 0 with c | c
      · exact c
      · have:=Int.mul_nonneg c (Int.le_of_lt hp);omega
    · intro h;exact Int.mul_neg_of_neg_of_pos h hp
  rw [this]
theorem Hk8 (s:Bool) (n:Nat) (e m:Int):rF s n e m=rV (sgN s n) e m:=by
  unfold rV
  rw [Db0]
  by_cases h:n=0
  · subst h;rfl
  · have:decide (sgN s n<0)=s:=by
      unfold sgN
      cases s
      · simp
      · simp;omega
    rw [this]
theorem Gx0 {s:Bool} {l:List Int} {e m:Int} (h:Gd s l e):As0 s l e m=some (rV (nD s l e) (-65536) m,0):=by
  have hd:=h.ld
  have hn:=Ee1 (zD s l) (e+65536).toNat (-65536) m
  have hs:=Hk8 s (lv l) e m
  have e1 : -65536+(((e+65536).toNat:Nat):Int)=e:=by omega
  rw [e1] at hn
  rw [Gz9 h,hs]
  unfold nD
  rw [hn];rfl
theorem Fs2 {z e:Int} (hz:blN z.natAbs≤16384) (h1 : -40000≤e) (h2:e≤40000):∃ s l f,Cm3 z e=(s,l,f,0)∧Gd s l f∧nD s l f=z*((2^(e+65536).toNat:Nat):Int):=by
  have sh:=Aw2 z e (e+65536).toNat
  have e1:e-(((e+65536).toNat:Nat):Int) = -65536:=by omega
  rw [e1] at sh
  rcases Fi2 z e with h | ⟨s,l,f,h,hg,_⟩
  · exfalso
    unfold Cm3 at h
    by_cases h0:z=0
    · rw [if_pos h0] at h
      have h4:(0:Int)=3:=congrArg (fun x:DyR=>x.2.2.2) h
      omega
    · rw [if_neg h0] at h
      unfold Ez9 at h
      have hn:z.natAbs≠0:=by omega
      have ht:=Dt5 hn
      obtain ⟨k1,k2⟩:=Dj5 hn
      have hm:z.natAbs/2^tzN z.natAbs≠0:=by omega
      have hb:blN z.natAbs=blN (z.natAbs/2^tzN z.natAbs)+tzN z.natAbs:=by
        conv=>lhs;rw [k1]
        exact Bf5 _ _ hm
      rw [if_neg (by omega)] at h
      have h4:(0:Int)=3:=congrArg (fun x:DyR=>x.2.2.2) h
      omega
  · refine ⟨s,l,f,h,hg,?_⟩
    rw [h] at sh
    have:=(Fe9 (k:=0) (by rw [show (-65536:Int)-((0:Nat):Int) = -65536 by omega];exact sh)).2
    rw [Nat.pow_zero] at this
    simpa using this
end Go.Eng
