/-
  Floats of 64 bits by their fields: comparisons with nought, signs, finite ones. No condition.
-/
import Derived.Test.YtgbilchfljlbeaaDoorFl2
import Derived.Laws.FloatBits
set_option linter.all false
namespace Go.Eng
def magF (x:Nat):Nat:=x%9223372036854775808
def negF (x:Nat):Bool:=x/9223372036854775808%2==1
theorem lp:Ieee.double.leastPlace = -1074:=by decide +kernel
theorem read_small {x:Nat} (h:magF x<4503599627370496):Ieee.double.read x = .number (negF x) (magF x) (-1074):=by
  unfold Ieee.Format.read;rw [sw,bn,lp];exact if_pos h
theorem read_normal {x:Nat} (h1:4503599627370496≤magF x) (h2:magF x<9218868437227405312) :
    Ieee.double.read x = .number (negF x) (4503599627370496+magF x%4503599627370496) (-1074+((magF x/4503599627370496-1:Nat):Int)):=by
  unfold Ieee.Format.read;rw [sw,bn,ir,lp]
  dsimp only
  rw [if_neg (by unfold magF at h1;omega),if_pos (by unfold magF at h2;omega)]
  rfl
theorem read_inf {x:Nat} (h:magF x=9218868437227405312):Ieee.double.read x = .infinity (negF x):=by
  unfold Ieee.Format.read;rw [sw,bn,ir]
  dsimp only
  unfold magF at h
  rw [if_neg (by omega),if_neg (by omega),if_pos h]
  rfl
theorem read_nan {x:Nat} (h:9218868437227405312<magF x):Ieee.double.read x = .nan (negF x) (magF x-9218868437227405312):=by
  unfold Ieee.Format.read;rw [sw,bn,ir]
  dsimp only
  unfold magF at h
  rw [if_neg (by omega),if_neg (by omega),if_neg (by omega)]
  rfl
theorem isNaN_mag (x:Nat):isNaN x=decide (9218868437227405312<magF x):=by
  unfold isNaN
  rcases Nat.lt_or_ge (magF x) 4503599627370496 with h | h
  · rw [read_small h];simp [Ieee.Datum.isNaN];omega
  · rcases Nat.lt_or_ge (magF x) 9218868437227405312 with h2 | h2
    · rw [read_normal h h2];simp [Ieee.Datum.isNaN];omega
    · rcases Nat.lt_or_ge 9218868437227405312 (magF x) with h3 | h3
      · rw [read_nan h3];simp [Ieee.Datum.isNaN,h3]
      · rw [read_inf (by omega)];simp [Ieee.Datum.isNaN];omega
theorem signed_zero (j:Nat):Ieee.signed false 0 j=0:=by unfold Ieee.signed;simp
theorem cmp_signed (s:Bool) (m k:Nat):compare (Ieee.signed s m k) 0=if m=0 then .eq else if s then .lt else .gt:=by
  unfold Ieee.signed
  have hp:0<2^k:=Nat.two_pow_pos k
  by_cases hm:m=0
  · subst hm;cases s<;>simp<;>rfl
  · have hpos:0<m*2^k:=Nat.mul_pos (by omega) hp
    rw [if_neg hm]
    simp only [Nat.shiftLeft_eq]
    cases s
    · simp only [Bool.false_eq_true,if_false]
      exact Int.compare_eq_gt.2 (by omega)
    · simp only [if_true]
      exact Int.compare_eq_lt.2 (by omega)
theorem order_zero (x:Nat):Ieee.double.order x 0=if 9218868437227405312<magF x then none else some (if magF x=0 then .eq else if negF x then .lt else .gt):=by
  unfold Ieee.Format.order
  have h0:Ieee.double.read 0 = .number false 0 (-1074):=read_small (x:=0) (by decide)
  rw [h0]
  rcases Nat.lt_or_ge (magF x) 4503599627370496 with h | h
  · rw [read_small h,if_neg (by omega)]
    simp only [Ieee.Datum.order,signed_zero,cmp_signed]
  · rcases Nat.lt_or_ge (magF x) 9218868437227405312 with h2 | h2
    · rw [read_normal h h2,if_neg (by omega)]
      simp only [Ieee.Datum.order,signed_zero,cmp_signed]
      have h3 : ¬ (4503599627370496+magF x%4503599627370496=0):=by omega
      have h4 : ¬ (magF x=0):=by omega
      rw [if_neg h3,if_neg h4]
    · rcases Nat.lt_or_ge 9218868437227405312 (magF x) with h3 | h3
      · rw [read_nan h3,if_pos h3];rfl
      · rw [read_inf (by omega),if_neg (by omega),if_neg (by omega)]
        rfl
theorem feq_zero (x:Nat):feq x 0=decide (magF x=0):=by
  unfold feq
  rw [order_zero]
  by_cases h:9218868437227405312<magF x
  · have:magF x≠0:=by omega
    simp [h,this]
  · by_cases h0:magF x=0
    · simp [h0]
    · cases hn:negF x<;>simp [h,h0]
theorem fgt_zero (x:Nat):fgt x 0=(decide (magF x≤9218868437227405312)&&decide (magF x≠0) && !negF x):=by
  unfold fgt
  rw [order_zero]
  by_cases h:9218868437227405312<magF x
  · simp [h,show ¬ magF x≤9218868437227405312 by omega]
  · by_cases h0:magF x=0
    · simp [h0]
    · cases hn:negF x<;>simp [h,h0,show magF x≤9218868437227405312 by omega]
def vmag (r:Nat):Nat:=if r<4503599627370496 then r else (4503599627370496+r%4503599627370496)*2^(r/4503599627370496-1)
theorem vmag_lt {r s:Nat} (h:r<s):vmag r<vmag s:=by
  unfold vmag
  by_cases hr:r<4503599627370496
  · rw [if_pos hr]
    by_cases hs:s<4503599627370496
    · rw [if_pos hs];exact h
    · rw [if_neg hs]
      have hp:1≤2^(s/4503599627370496-1):=Nat.one_le_two_pow
      have:(4503599627370496+s%4503599627370496)*1≤(4503599627370496+s%4503599627370496)*2^(s/4503599627370496-1):=Nat.mul_le_mul_left _ hp
      omega
  · rw [if_neg hr,if_neg (by omega)]
    have he:r/4503599627370496≤s/4503599627370496:=Nat.div_le_div_right (by omega)
    rcases Nat.lt_or_ge (r/4503599627370496) (s/4503599627370496) with h1 | h1
    · have h2:(4503599627370496+r%4503599627370496)*2^(r/4503599627370496-1)<(4503599627370496*2)*2^(r/4503599627370496-1):=
        Nat.mul_lt_mul_of_pos_right (by omega) (Nat.two_pow_pos _)
      have h3:(4503599627370496*2)*2^(r/4503599627370496-1)=4503599627370496*2^(r/4503599627370496):=by
        rw [Nat.mul_assoc]
        congr 1
        have:r/4503599627370496=(r/4503599627370496-1)+1:=by omega
        rw [Nat.mul_comm,← Nat.pow_succ]
        congr 1
        exact this.symm
      have h4:4503599627370496*2^(r/4503599627370496)≤(4503599627370496+s%4503599627370496)*2^(s/4503599627370496-1):=
        Nat.mul_le_mul (by omega) (Nat.pow_le_pow_right (by omega) (by omega))
      omega
    · have e:r/4503599627370496=s/4503599627370496:=by omega
      rw [e]
      exact Nat.mul_lt_mul_of_pos_right (by omega) (Nat.two_pow_pos _)
theorem read_fin {x:Nat} (h:magF x<9218868437227405312):∃ m a:Nat,Ieee.double.read x = .number (negF x) m (-1074+(a:Int))∧m*2^a=vmag (magF x):=by
  rcases Nat.lt_or_ge (magF x) 4503599627370496 with h1 | h1
  · exact ⟨magF x,0,read_small h1,by unfold vmag;rw [if_pos h1];omega⟩
  · exact ⟨_,_,read_normal h1 h,by unfold vmag;rw [if_neg (by omega)]⟩
def sval (x:Nat):Int:=if negF x then -(vmag (magF x):Int) else (vmag (magF x):Int)
theorem signed_val (s:Bool) (m k:Nat):Ieee.signed s m k=if s then -((m*2^k:Nat):Int) else ((m*2^k:Nat):Int):=by
  unfold Ieee.signed
  rw [Nat.shiftLeft_eq]
theorem signed_scale (s:Bool) (m k d:Nat):Ieee.signed s m (k+d)=Ieee.signed s m k*((2^d:Nat):Int):=by
  rw [signed_val,signed_val]
  have:m*2^(k+d)=m*2^k*2^d:=by rw [Nat.pow_add,Nat.mul_assoc]
  rw [this]
  cases s
  · simp only [Bool.false_eq_true,if_false];rw [Int.natCast_mul]
  · simp only [if_true];rw [Int.natCast_mul,Int.neg_mul]
theorem compare_scale (a b c:Int) (hc:0<c):compare (a*c) (b*c)=compare a b:=by
  rcases Int.lt_trichotomy a b with h | h | h
  · rw [Int.compare_eq_lt.2 h,Int.compare_eq_lt.2 (Int.mul_lt_mul_of_pos_right h hc)]
  · subst h;rw [Int.compare_eq_eq.2 rfl,Int.compare_eq_eq.2 rfl]
  · rw [Int.compare_eq_gt.2 h,Int.compare_eq_gt.2 (Int.mul_lt_mul_of_pos_right h hc)]
theorem order_fin {x y:Nat} (hx:magF x<9218868437227405312) (hy:magF y<9218868437227405312):Ieee.double.order x y=some (compare (sval x) (sval y)):=by
  obtain ⟨m,a,hr,hv⟩:=read_fin hx
  obtain ⟨n,b,hs,hw⟩:=read_fin hy
  unfold Ieee.Format.order
  rw [hr,hs]
  simp only [Ieee.Datum.order]
  congr 1
  have e1:sval x=Ieee.signed (negF x) m a:=by unfold sval;rw [signed_val,hv]
  have e2:sval y=Ieee.signed (negF y) n b:=by unfold sval;rw [signed_val,hw]
  have c:min (-1074+(a:Int)) (-1074+(b:Int)) = -1074+((min a b:Nat):Int):=by omega
  rw [c]
  have c1:(-1074+(a:Int)-(-1074+((min a b:Nat):Int))).toNat=a-min a b:=by omega
  have c2:(-1074+(b:Int)-(-1074+((min a b:Nat):Int))).toNat=b-min a b:=by omega
  rw [c1,c2,e1,e2]
  have d1:Ieee.signed (negF x) m a=Ieee.signed (negF x) m (a-min a b)*((2^min a b:Nat):Int):=by rw [← signed_scale];congr 1;omega
  have d2:Ieee.signed (negF y) n b=Ieee.signed (negF y) n (b-min a b)*((2^min a b:Nat):Int):=by rw [← signed_scale];congr 1;omega
  rw [d1,d2,compare_scale _ _ _ (by have:=Nat.two_pow_pos (min a b);omega)]
theorem magF_lt (x:Nat):magF x<9223372036854775808:=Nat.mod_lt _ (by omega)
theorem magF_magF (x:Nat):magF (magF x)=magF x:=Nat.mod_eq_of_lt (magF_lt x)
theorem negF_magF (x:Nat):negF (magF x)=false:=by
  unfold negF
  rw [Nat.div_eq_of_lt (magF_lt x)];rfl
theorem isInf_test (x:Nat):fgt (magF x) 9218868437227405311=decide (magF x=9218868437227405312):=by
  unfold fgt
  rcases Nat.lt_or_ge (magF x) 9218868437227405312 with h | h
  · rw [order_fin (by rw [magF_magF];exact h) (by decide)]
    have h1:sval (magF x)=(vmag (magF x):Int):=by unfold sval;rw [negF_magF,magF_magF];rfl
    have h2:sval 9218868437227405311=(vmag 9218868437227405311:Int):=by
      unfold sval
      have q1:negF 9218868437227405311=false:=by decide
      have q2:magF 9218868437227405311=9218868437227405311:=by decide
      rw [q1,q2]
      exact if_neg (by decide)
    rw [h1,h2]
    have h3:vmag (magF x)≤vmag 9218868437227405311:=by
      rcases Nat.lt_or_eq_of_le (show magF x≤9218868437227405311 by omega) with h4 | h4
      · exact Nat.le_of_lt (vmag_lt h4)
      · rw [h4];exact Nat.le_refl _
    rcases Nat.lt_or_eq_of_le h3 with h4 | h4
    · rw [Int.compare_eq_lt.2 (by omega)];simp;omega
    · rw [Int.compare_eq_eq.2 (by omega)];simp;omega
  · unfold Ieee.Format.order
    obtain ⟨m,a,hs,_⟩:=read_fin (x:=9218868437227405311) (by decide)
    rw [hs]
    rcases Nat.lt_or_ge 9218868437227405312 (magF x) with h3 | h3
    · rw [read_nan (by rw [magF_magF];exact h3)];simp [Ieee.Datum.order];omega
    · rw [read_inf (by rw [magF_magF];omega),negF_magF]
      have:magF x=9218868437227405312:=by omega
      simp [Ieee.Datum.order,this]
end Go.Eng
/-
  Floats of 64 bits by their fields (continued): opposites, differences with oneself, sums that are nought. No condition.
-/
namespace Go.Eng
theorem fneg_mag (x:Nat):magF (fneg x)=magF x:=by
  unfold magF fneg
  show (x ^^^ 2^63)%2^63=x%2^63
  rw [Nat.xor_mod_two_pow]
  simp
theorem fneg_neg (x:Nat):negF (fneg x) = !negF x:=by
  unfold negF fneg
  show ((x ^^^ 2^63)/2^63%2==1) = !(x/2^63%2==1)
  rw [Nat.xor_div_two_pow]
  have:(x/2^63 ^^^ 2^63/2^63)%2=(x/2^63+1)%2:=by
    rw [Nat.div_self (by decide)]
    have h2:=Nat.xor_mod_two_pow (a:=x/2^63) (b:=1) (n:=1)
    rw [Nat.pow_one] at h2
    rw [h2]
    rcases Nat.mod_two_eq_zero_or_one (x/2^63) with h | h
    · rw [h,show (x/2^63+1)%2=1 by omega];rfl
    · rw [h,show (x/2^63+1)%2=0 by omega];rfl
  rw [this]
  rcases Nat.mod_two_eq_zero_or_one (x/2^63) with h | h
  · rw [h,show (x/2^63+1)%2=1 by omega];rfl
  · rw [h,show (x/2^63+1)%2=0 by omega];rfl
end Go.Eng
/-
  Sums of finite floats of 64 bits: when nought, of which sign. No condition.
-/
namespace Go.Eng
theorem word_mag (s:Bool) (r:Nat) (h:r<9223372036854775808):magF (Ieee.double.word s r)=r:=by
  unfold Ieee.Format.word magF
  rw [sw]
  cases s<;>simp<;>omega
theorem fb:Ieee.double.fractionBits=52:=by decide +kernel
theorem cut_zero (t:Ieee.Toward) (s:Bool) (n:Nat):t.cut s n 0=n:=by
  unfold Ieee.Toward.cut
  have h:n%1=0:=Nat.mod_one n
  cases t<;>simp [h]
theorem nearest_form (s:Bool) (m:Nat) (p:Int):∃ r,Ieee.double.nearest s m p=Ieee.double.word s r∧r≤9218868437227405312∧(-1074≤p→(r=0↔m=0)):=by
  unfold Ieee.Format.nearest
  by_cases hm:m=0
  · rw [if_pos hm];exact ⟨0,rfl,by omega,fun _=>by simp [hm]⟩
  · rw [if_neg hm]
    refine ⟨_,rfl,by rw [ir];exact Nat.min_le_right _ _,fun hp=>?_⟩
    rw [ir,bn,lp,fb]
    constructor
    · intro h
      exfalso
      by_cases hl:p+(m.log2:Int)-(52:Nat) ≤ -1074∨p+(m.log2:Int)-(52:Nat)≤p
      · have hle:max (p+(m.log2:Int)-(52:Nat)) (-1074)≤p:=by omega
        have hz:(max (p+(m.log2:Int)-(52:Nat)) (-1074)-p).toNat=0:=by omega
        rw [hz] at h
        have hc:Ieee.Toward.even.cut s (m <<< (p-max (p+(m.log2:Int)-(52:Nat)) (-1074)).toNat) 0=m <<< (p-max (p+(m.log2:Int)-(52:Nat)) (-1074)).toNat:=by
          exact cut_zero _ _ _
        rw [hc,Nat.shiftLeft_eq] at h
        have hpos:0<m*2^(p-max (p+(m.log2:Int)-(52:Nat)) (-1074)).toNat:=Nat.mul_pos (by omega) (Nat.two_pow_pos _)
        omega
      · have hgt:1≤(max (p+(m.log2:Int)-(52:Nat)) (-1074) - -1074).toNat:=by omega
        have:1*4503599627370496≤(max (p+(m.log2:Int)-(52:Nat)) (-1074) - -1074).toNat*4503599627370496:=Nat.mul_le_mul_right _ hgt
        omega
    · intro h;exact absurd h hm
theorem fin_sum {x y:Nat} (hx:magF x<9218868437227405312) (hy:magF y<9218868437227405312) :
    ∃ r,fadd x y=Ieee.double.word (if sval x+sval y=0 then negF x&&negF y else decide (sval x+sval y<0)) r∧r≤9218868437227405312∧(r=0↔sval x+sval y=0):=by
  obtain ⟨m,a,hr,hv⟩:=read_fin hx
  obtain ⟨n,b,hs,hw⟩:=read_fin hy
  have e1:sval x=Ieee.signed (negF x) m a:=by unfold sval;rw [signed_val,hv]
  have e2:sval y=Ieee.signed (negF y) n b:=by unfold sval;rw [signed_val,hw]
  have c:min (-1074+(a:Int)) (-1074+(b:Int)) = -1074+((min a b:Nat):Int):=by omega
  have c1:(-1074+(a:Int)-(-1074+((min a b:Nat):Int))).toNat=a-min a b:=by omega
  have c2:(-1074+(b:Int)-(-1074+((min a b:Nat):Int))).toNat=b-min a b:=by omega
  have d1:Ieee.signed (negF x) m a=Ieee.signed (negF x) m (a-min a b)*((2^min a b:Nat):Int):=by rw [← signed_scale];congr 1;omega
  have d2:Ieee.signed (negF y) n b=Ieee.signed (negF y) n (b-min a b)*((2^min a b:Nat):Int):=by rw [← signed_scale];congr 1;omega
  have hp:(0:Int)<((2^min a b:Nat):Int):=by have:=Nat.two_pow_pos (min a b);omega
  generalize ht:Ieee.signed (negF x) m (a-min a b)+Ieee.signed (negF y) n (b-min a b)=T at *
  have hT:sval x+sval y=T*((2^min a b:Nat):Int):=by rw [e1,e2,d1,d2,← Int.add_mul,ht]
  have z1:sval x+sval y=0↔T=0:=by
    rw [hT]
    constructor
    · intro h;rcases Int.mul_eq_zero.1 h with h | h;exact h;omega
    · intro h;rw [h,Int.zero_mul]
  have z2:sval x+sval y<0↔T<0:=by
    rw [hT]
    constructor
    · intro h
      rcases Int.lt_or_le T 0 with h1 | h1
      · exact h1
      · have:=Int.mul_nonneg h1 (Int.le_of_lt hp);omega
    · intro h;exact Int.mul_neg_of_neg_of_pos h hp
  have hf:fadd x y=Ieee.double.nearest (if T=0 then negF x&&negF y else decide (T<0)) T.natAbs (-1074+((min a b:Nat):Int)):=by
    unfold fadd Ieee.Format.add
    rw [hr,hs]
    simp only [Ieee.Datum.sum,c,c1,c2,ht]
    rfl
  obtain ⟨r,h1,h2,h3⟩:=nearest_form (if T=0 then negF x&&negF y else decide (T<0)) T.natAbs (-1074+((min a b:Nat):Int))
  refine ⟨r,?_,h2,?_⟩
  · rw [hf,h1]
    congr 1
    by_cases hz:T=0
    · rw [if_pos hz,if_pos (z1.2 hz)]
    · rw [if_neg hz,if_neg (fun h=>hz (z1.1 h))]
      exact decide_eq_decide.2 z2.symm
  · rw [z1,h3 (by omega)];omega
theorem vmag_zero (r:Nat):vmag r=0↔r=0:=by
  constructor
  · intro h
    rcases Nat.eq_zero_or_pos r with h0 | h0
    · exact h0
    · have:=vmag_lt h0
      have e:vmag 0=0:=by decide
      omega
  · rintro rfl;decide
theorem sval_zero (x:Nat):sval x=0↔magF x=0:=by
  unfold sval
  rw [← vmag_zero]
  cases negF x<;>simp
theorem fadd_mag_zero {x y:Nat} (hx:magF x<9218868437227405312) (hy:magF y<9218868437227405312):magF (fadd x y)=0↔sval x+sval y=0:=by
  obtain ⟨r,h1,h2,h3⟩:=fin_sum hx hy
  rw [h1,word_mag _ _ (by omega),h3]
end Go.Eng
