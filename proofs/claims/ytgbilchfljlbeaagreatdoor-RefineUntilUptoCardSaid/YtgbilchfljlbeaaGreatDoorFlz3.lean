/-
  Floats of 64 bits by their fields: comparisons with nought, signs, finite ones. No condition.
-/
import Derived.Test.YtgbilchfljlbeaaGreatDoorFl2
import Derived.Laws.FloatBits
set_option linter.all false
namespace Go.Eng
def Ab2 (x:Nat):Nat:=x%9223372036854775808
def Ae3 (x:Nat):Bool:=x/9223372036854775808%2==1
theorem lp:Ieee.double.leastPlace = -1074:=by decide +kernel
theorem Bv9 {x:Nat} (h:Ab2 x<4503599627370496):Ieee.double.read x = .number (Ae3 x) (Ab2 x) (-1074):=by
  unfold Ieee.Format.read;rw [sw,bn,lp];exact if_pos h
theorem Cd5 {x:Nat} (h1:4503599627370496≤Ab2 x) (h2:Ab2 x<9218868437227405312) :
    Ieee.double.read x = .number (Ae3 x) (4503599627370496+Ab2 x%4503599627370496) (-1074+((Ab2 x/4503599627370496-1:Nat):Int)):=by
  unfold Ieee.Format.read;rw [sw,bn,ir,lp]
  dsimp only
  rw [if_neg (by unfold Ab2 at h1;omega),if_pos (by unfold Ab2 at h2;omega)]
  rfl
theorem Bi8 {x:Nat} (h:Ab2 x=9218868437227405312):Ieee.double.read x = .infinity (Ae3 x):=by
  unfold Ieee.Format.read;rw [sw,bn,ir]
  dsimp only
  unfold Ab2 at h
  rw [if_neg (by omega),if_neg (by omega),if_pos h]
  rfl
theorem Cx7 {x:Nat} (h:9218868437227405312<Ab2 x):Ieee.double.read x = .nan (Ae3 x) (Ab2 x-9218868437227405312):=by
  unfold Ieee.Format.read;rw [sw,bn,ir]
  dsimp only
  unfold Ab2 at h
  rw [if_neg (by omega),if_neg (by omega),if_neg (by omega)]
  rfl
theorem Ad0 (x:Nat):isNaN x=decide (9218868437227405312<Ab2 x):=by
  unfold isNaN
  rcases Nat.lt_or_ge (Ab2 x) 4503599627370496 with h | h
  · rw [Bv9 h];simp [Ieee.Datum.isNaN];omega
  · rcases Nat.lt_or_ge (Ab2 x) 9218868437227405312 with h2 | h2
    · rw [Cd5 h h2];simp [Ieee.Datum.isNaN];omega
    · rcases Nat.lt_or_ge 9218868437227405312 (Ab2 x) with h3 | h3
      · rw [Cx7 h3];simp [Ieee.Datum.isNaN,h3]
      · rw [Bi8 (by omega)];simp [Ieee.Datum.isNaN];omega
theorem Da8 (j:Nat):Ieee.signed false 0 j=0:=by unfold Ieee.signed;simp
theorem Dr3 (s:Bool) (m k:Nat):compare (Ieee.signed s m k) 0=if m=0 then .eq else if s then .lt else .gt:=by
  unfold Ieee.signed
  have hp:0<2^k:=Nat.two_pow_pos k
  by_cases hm:m=0
  · subst hm;cases s<;>simp<;>rfl
  · have hpos:0<m*2^k:=Nat.mul_pos (by omega) hp
    rw [if_neg hm]
    simp only [Nat.shiftLeft_eq]
    cases s
    · simp only [Bool.false_eq_true,if_false]
      exact Int.compare_eq_gt.2 (by omega)
    · simp only [if_true]
      exact Int.compare_eq_lt.2 (by omega)
theorem Co4 (x:Nat):Ieee.double.order x 0=if 9218868437227405312<Ab2 x then none else some (if Ab2 x=0 then .eq else if Ae3 x then .lt else .gt):=by
  unfold Ieee.Format.order
  have h0:Ieee.double.read 0 = .number false 0 (-1074):=Bv9 (x:=0) (by decide)
  rw [h0]
  rcases Nat.lt_or_ge (Ab2 x) 4503599627370496 with h | h
  · rw [Bv9 h,if_neg (by omega)]
    simp only [Ieee.Datum.order,Da8,Dr3]
  · rcases Nat.lt_or_ge (Ab2 x) 9218868437227405312 with h2 | h2
    · rw [Cd5 h h2,if_neg (by omega)]
      simp only [Ieee.Datum.order,Da8,Dr3]
      have h3 : ¬ (4503599627370496+Ab2 x%4503599627370496=0):=by omega
      have h4 : ¬ (Ab2 x=0):=by omega
      rw [if_neg h3,if_neg h4]
    · rcases Nat.lt_or_ge 9218868437227405312 (Ab2 x) with h3 | h3
      · rw [Cx7 h3,if_pos h3];rfl
      · rw [Bi8 (by omega),if_neg (by omega),if_neg (by omega)]
        rfl
theorem Bj0 (x:Nat):feq x 0=decide (Ab2 x=0):=by
  unfold feq
  rw [Co4]
  by_cases h:9218868437227405312<Ab2 x
  · have:Ab2 x≠0:=by omega
    simp [h,this]
  · by_cases h0:Ab2 x=0
    · simp [h0]
    · cases hn:Ae3 x<;>simp [h,h0]
theorem Eg4 (x:Nat):flt x 0=(decide (Ab2 x≤9218868437227405312)&&decide (Ab2 x≠0)&&Ae3 x):=by
  unfold flt
  rw [Co4]
  by_cases h:9218868437227405312<Ab2 x
  · simp [h,show ¬ Ab2 x≤9218868437227405312 by omega]
  · by_cases h0:Ab2 x=0
    · simp [h0]
    · cases hn:Ae3 x<;>simp [h,h0,show Ab2 x≤9218868437227405312 by omega]
theorem Ch9 (x:Nat):fgt x 0=(decide (Ab2 x≤9218868437227405312)&&decide (Ab2 x≠0) && !Ae3 x):=by
  unfold fgt
  rw [Co4]
  by_cases h:9218868437227405312<Ab2 x
  · simp [h,show ¬ Ab2 x≤9218868437227405312 by omega]
  · by_cases h0:Ab2 x=0
    · simp [h0]
    · cases hn:Ae3 x<;>simp [h,h0,show Ab2 x≤9218868437227405312 by omega]
def Bq8 (r:Nat):Nat:=if r<4503599627370496 then r else (4503599627370496+r%4503599627370496)*2^(r/4503599627370496-1)
theorem Bs9 {r s:Nat} (h:r<s):Bq8 r<Bq8 s:=by
  unfold Bq8
  by_cases hr:r<4503599627370496
  · rw [if_pos hr]
    by_cases hs:s<4503599627370496
    · rw [if_pos hs];exact h
    · rw [if_neg hs]
      have hp:1≤2^(s/4503599627370496-1):=Nat.one_le_two_pow
      have:(4503599627370496+s%4503599627370496)*1≤(4503599627370496+s%4503599627370496)*2^(s/4503599627370496-1):=Nat.mul_le_mul_left _ hp
      omega
  · rw [if_neg hr,if_neg (by omega)]
    have he:r/4503599627370496≤s/4503599627370496:=Nat.div_le_div_right (by omega)
    rcases Nat.lt_or_ge (r/4503599627370496) (s/4503599627370496) with h1 | h1
    · have h2:(4503599627370496+r%4503599627370496)*2^(r/4503599627370496-1)<(4503599627370496*2)*2^(r/4503599627370496-1):=
        Nat.mul_lt_mul_of_pos_right (by omega) (Nat.two_pow_pos _)
      have h3:(4503599627370496*2)*2^(r/4503599627370496-1)=4503599627370496*2^(r/4503599627370496):=by
        rw [Nat.mul_assoc]
        congr 1
        have:r/4503599627370496=(r/4503599627370496-1)+1:=by omega
        rw [Nat.mul_comm,← Nat.pow_succ]
        congr 1
        exact this.symm
      have h4:4503599627370496*2^(r/4503599627370496)≤(4503599627370496+s%4503599627370496)*2^(s/4503599627370496-1):=
        Nat.mul_le_mul (by omega) (Nat.pow_le_pow_right (by omega) (by omega))
      omega
    · have e:r/4503599627370496=s/4503599627370496:=by omega
      rw [e]
      exact Nat.mul_lt_mul_of_pos_right (by omega) (Nat.two_pow_pos _)
theorem Bb3 {x:Nat} (h:Ab2 x<9218868437227405312):∃ m a:Nat,Ieee.double.read x = .number (Ae3 x) m (-1074+(a:Int))∧m*2^a=Bq8 (Ab2 x):=by
  rcases Nat.lt_or_ge (Ab2 x) 4503599627370496 with h1 | h1
  · exact ⟨Ab2 x,0,Bv9 h1,by unfold Bq8;rw [if_pos h1];omega⟩
  · exact ⟨_,_,Cd5 h1 h,by unfold Bq8;rw [if_neg (by omega)]⟩
def Am3 (x:Nat):Int:=if Ae3 x then -(Bq8 (Ab2 x):Int) else (Bq8 (Ab2 x):Int)
theorem Aw3 (s:Bool) (m k:Nat):Ieee.signed s m k=if s then -((m*2^k:Nat):Int) else ((m*2^k:Nat):Int):=by
  unfold Ieee.signed
  rw [Nat.shiftLeft_eq]
theorem Bh7 (s:Bool) (m k d:Nat):Ieee.signed s m (k+d)=Ieee.signed s m k*((2^d:Nat):Int):=by
  rw [Aw3,Aw3]
  have:m*2^(k+d)=m*2^k*2^d:=by rw [Nat.pow_add,Nat.mul_assoc]
  rw [this]
  cases s
  · simp only [Bool.false_eq_true,if_false];rw [Int.natCast_mul]
  · simp only [if_true];rw [Int.natCast_mul,Int.neg_mul]
theorem Eh8 (a b c:Int) (hc:0<c):compare (a*c) (b*c)=compare a b:=by
  rcases Int.lt_trichotomy a b with h | h | h
  · rw [Int.compare_eq_lt.2 h,Int.compare_eq_lt.2 (Int.mul_lt_mul_of_pos_right h hc)]
  · subst h;rw [Int.compare_eq_eq.2 rfl,Int.compare_eq_eq.2 rfl]
  · rw [Int.compare_eq_gt.2 h,Int.compare_eq_gt.2 (Int.mul_lt_mul_of_pos_right h hc)]
theorem El7 {x y:Nat} (hx:Ab2 x<9218868437227405312) (hy:Ab2 y<9218868437227405312):Ieee.double.order x y=some (compare (Am3 x) (Am3 y)):=by
  obtain ⟨m,a,hr,hv⟩:=Bb3 hx
  obtain ⟨n,b,hs,hw⟩:=Bb3 hy
  unfold Ieee.Format.order
  rw [hr,hs]
  simp only [Ieee.Datum.order]
  congr 1
  have e1:Am3 x=Ieee.signed (Ae3 x) m a:=by unfold Am3;rw [Aw3,hv]
  have e2:Am3 y=Ieee.signed (Ae3 y) n b:=by unfold Am3;rw [Aw3,hw]
  have c:min (-1074+(a:Int)) (-1074+(b:Int)) = -1074+((min a b:Nat):Int):=by omega
  rw [c]
  have c1:(-1074+(a:Int)-(-1074+((min a b:Nat):Int))).toNat=a-min a b:=by omega
  have c2:(-1074+(b:Int)-(-1074+((min a b:Nat):Int))).toNat=b-min a b:=by omega
  rw [c1,c2,e1,e2]
  have d1:Ieee.signed (Ae3 x) m a=Ieee.signed (Ae3 x) m (a-min a b)*((2^min a b:Nat):Int):=by rw [← Bh7];congr 1;omega
  have d2:Ieee.signed (Ae3 y) n b=Ieee.signed (Ae3 y) n (b-min a b)*((2^min a b:Nat):Int):=by rw [← Bh7];congr 1;omega
  rw [d1,d2,Eh8 _ _ _ (by have:=Nat.two_pow_pos (min a b);omega)]
theorem Bs0 (x:Nat):Ab2 x<9223372036854775808:=Nat.mod_lt _ (by omega)
theorem Ap1 (x:Nat):Ab2 (Ab2 x)=Ab2 x:=Nat.mod_eq_of_lt (Bs0 x)
theorem Dj0 (x:Nat):Ae3 (Ab2 x)=false:=by
  unfold Ae3
  rw [Nat.div_eq_of_lt (Bs0 x)];rfl
theorem Dr9 (x:Nat):fgt (Ab2 x) 9218868437227405311=decide (Ab2 x=9218868437227405312):=by
  unfold fgt
  rcases Nat.lt_or_ge (Ab2 x) 9218868437227405312 with h | h
  · rw [El7 (by rw [Ap1];exact h) (by decide)]
    have h1:Am3 (Ab2 x)=(Bq8 (Ab2 x):Int):=by unfold Am3;rw [Dj0,Ap1];rfl
    have h2:Am3 9218868437227405311=(Bq8 9218868437227405311:Int):=by
      unfold Am3
      have q1:Ae3 9218868437227405311=false:=by decide
      have q2:Ab2 9218868437227405311=9218868437227405311:=by decide
      rw [q1,q2]
      exact if_neg (by decide)
    rw [h1,h2]
    have h3:Bq8 (Ab2 x)≤Bq8 9218868437227405311:=by
      rcases Nat.lt_or_eq_of_le (show Ab2 x≤9218868437227405311 by omega) with h4 | h4
      · exact Nat.le_of_lt (Bs9 h4)
      · rw [h4];exact Nat.le_refl _
    rcases Nat.lt_or_eq_of_le h3 with h4 | h4
    · rw [Int.compare_eq_lt.2 (by omega)];simp;omega
    · rw [Int.compare_eq_eq.2 (by omega)];simp;omega
  · unfold Ieee.Format.order
    obtain ⟨m,a,hs,_⟩:=Bb3 (x:=9218868437227405311) (by decide)
    rw [hs]
    rcases Nat.lt_or_ge 9218868437227405312 (Ab2 x) with h3 | h3
    · rw [Cx7 (by rw [Ap1];exact h3)];simp [Ieee.Datum.order];omega
    · rw [Bi8 (by rw [Ap1];omega),Dj0]
      have:Ab2 x=9218868437227405312:=by omega
      simp [Ieee.Datum.order,this]
end Go.Eng
/-
  Floats of 64 bits by their fields (continued): opposites, differences with oneself, sums that are nought. No condition.
-/
namespace Go.Eng
theorem Av2 (x:Nat):Ab2 (Bn0 x)=Ab2 x:=by
  unfold Ab2 Bn0
  show (x ^^^ 2^63)%2^63=x%2^63
  rw [Nat.xor_mod_two_pow]
  simp
theorem Dz6 (x:Nat):Ae3 (Bn0 x) = !Ae3 x:=by
  unfold Ae3 Bn0
  show ((x ^^^ 2^63)/2^63%2==1) = !(x/2^63%2==1)
  rw [Nat.xor_div_two_pow]
  have:(x/2^63 ^^^ 2^63/2^63)%2=(x/2^63+1)%2:=by
    rw [Nat.div_self (by decide)]
    have h2:=Nat.xor_mod_two_pow (a:=x/2^63) (b:=1) (n:=1)
    rw [Nat.pow_one] at h2
    rw [h2]
    rcases Nat.mod_two_eq_zero_or_one (x/2^63) with h | h
    · rw [h,show (x/2^63+1)%2=1 by omega];rfl
    · rw [h,show (x/2^63+1)%2=0 by omega];rfl
  rw [this]
  rcases Nat.mod_two_eq_zero_or_one (x/2^63) with h | h
  · rw [h,show (x/2^63+1)%2=1 by omega];rfl
  · rw [h,show (x/2^63+1)%2=0 by omega];rfl
theorem Cn4 {x:Nat} (h:x<18446744073709551616):x=(if Ae3 x then 9223372036854775808 else 0)+Ab2 x:=by
  unfold Ae3 Ab2
  by_cases hx:x<9223372036854775808
  · rw [Nat.div_eq_of_lt hx];simp;omega
  · have:x/9223372036854775808=1:=by omega
    rw [this];simp;omega
theorem Gc3 {x:Nat} (h:x<18446744073709551616):Bn0 x<18446744073709551616:=Nat.xor_lt_two_pow (n:=64) h (by decide)
theorem Dy5 {x:Nat} (h:x<18446744073709551616):Bn0 x=(if Ae3 x then 0 else 9223372036854775808)+Ab2 x:=by
  have:=Cn4 (Gc3 h)
  rw [Av2,Dz6] at this
  rw [this]
  cases Ae3 x<;>rfl
theorem Cn7 (x:Nat):feq (Bn1 x x) 0=decide (Ab2 x<9218868437227405312):=by
  unfold Bn1 Ieee.Format.sub
  rcases Nat.lt_or_ge (Ab2 x) 9218868437227405312 with h | h
  · obtain ⟨m,a,hr,_⟩:=Bb3 h
    rw [hr]
    have e:(Ieee.Datum.number (Ae3 x) m (-1074+(a:Int))).sum (Ieee.Datum.number (Ae3 x) m (-1074+(a:Int))).opposite=some (.number false 0 (-1074+(a:Int))):=by
      simp only [Ieee.Datum.opposite,Ieee.Datum.sum]
      have ht:Ieee.signed (Ae3 x) m (-1074+(a:Int)-min (-1074+(a:Int)) (-1074+(a:Int))).toNat+Ieee.signed (!Ae3 x) m (-1074+(a:Int)-min (-1074+(a:Int)) (-1074+(a:Int))).toNat=0:=by
        rw [Aw3,Aw3]
        cases Ae3 x<;>simp<;>omega
      simp only [ht]
      cases Ae3 x<;>simp
    rw [e]
    have h0:Ieee.double.write (.number false 0 (-1074+(a:Int)))=0:=by
      show Ieee.double.nearest false 0 _=0
      unfold Ieee.Format.nearest
      rw [if_pos rfl];rfl
    simp only [Option.map_some,Option.getD_some,h0]
    rw [Bj0];simp [h];decide
  · have e:((Ieee.double.read x).sum (Ieee.double.read x).opposite)=none:=by
      rcases Nat.lt_or_ge 9218868437227405312 (Ab2 x) with h3 | h3
      · rw [Cx7 h3];rfl
      · rw [Bi8 (by omega)]
        simp only [Ieee.Datum.opposite,Ieee.Datum.sum]
        cases Ae3 x<;>rfl
    rw [e]
    have:decide (Ab2 x<9218868437227405312)=false:=by simp;omega
    rw [this]
    decide +kernel
end Go.Eng
/-
  Sums of finite floats of 64 bits: when nought, of which sign. No condition.
-/
namespace Go.Eng
theorem Ff6 (s:Bool) (r:Nat) (h:r<9223372036854775808):Ab2 (Ieee.double.word s r)=r:=by
  unfold Ieee.Format.word Ab2
  rw [sw]
  cases s<;>simp<;>omega
theorem Bf2 (s:Bool) (r:Nat) (h:r<9223372036854775808):Ieee.double.word s r<18446744073709551616:=by
  unfold Ieee.Format.word
  rw [sw]
  cases s<;>simp<;>omega
theorem fb:Ieee.double.fractionBits=52:=by decide +kernel
theorem Dy7 (t:Ieee.Toward) (s:Bool) (n:Nat):t.cut s n 0=n:=by
  unfold Ieee.Toward.cut
  have h:n%1=0:=Nat.mod_one n
  cases t<;>simp [h]
theorem Cv9 (s:Bool) (m:Nat) (p:Int):∃ r,Ieee.double.nearest s m p=Ieee.double.word s r∧r≤9218868437227405312∧(-1074≤p→(r=0↔m=0)):=by
  unfold Ieee.Format.nearest
  by_cases hm:m=0
  · rw [if_pos hm];exact ⟨0,rfl,by omega,fun _=>by simp [hm]⟩
  · rw [if_neg hm]
    refine ⟨_,rfl,by rw [ir];exact Nat.min_le_right _ _,fun hp=>?_⟩
    rw [ir,bn,lp,fb]
    constructor
    · intro h
      exfalso
      by_cases hl:p+(m.log2:Int)-(52:Nat) ≤ -1074∨p+(m.log2:Int)-(52:Nat)≤p
      · have hle:max (p+(m.log2:Int)-(52:Nat)) (-1074)≤p:=by omega
        have hz:(max (p+(m.log2:Int)-(52:Nat)) (-1074)-p).toNat=0:=by omega
        rw [hz] at h
        have hc:Ieee.Toward.even.cut s (m <<< (p-max (p+(m.log2:Int)-(52:Nat)) (-1074)).toNat) 0=m <<< (p-max (p+(m.log2:Int)-(52:Nat)) (-1074)).toNat:=by
          exact Dy7 _ _ _
        rw [hc,Nat.shiftLeft_eq] at h
        have hpos:0<m*2^(p-max (p+(m.log2:Int)-(52:Nat)) (-1074)).toNat:=Nat.mul_pos (by omega) (Nat.two_pow_pos _)
        omega
      · have hgt:1≤(max (p+(m.log2:Int)-(52:Nat)) (-1074) - -1074).toNat:=by omega
        have:1*4503599627370496≤(max (p+(m.log2:Int)-(52:Nat)) (-1074) - -1074).toNat*4503599627370496:=Nat.mul_le_mul_right _ hgt
        omega
    · intro h;exact absurd h hm
theorem Dk4 {x y:Nat} (hx:Ab2 x<9218868437227405312) (hy:Ab2 y<9218868437227405312) :
    ∃ r,As2 x y=Ieee.double.word (if Am3 x+Am3 y=0 then Ae3 x&&Ae3 y else decide (Am3 x+Am3 y<0)) r∧r≤9218868437227405312∧(r=0↔Am3 x+Am3 y=0):=by
  obtain ⟨m,a,hr,hv⟩:=Bb3 hx
  obtain ⟨n,b,hs,hw⟩:=Bb3 hy
  have e1:Am3 x=Ieee.signed (Ae3 x) m a:=by unfold Am3;rw [Aw3,hv]
  have e2:Am3 y=Ieee.signed (Ae3 y) n b:=by unfold Am3;rw [Aw3,hw]
  have c:min (-1074+(a:Int)) (-1074+(b:Int)) = -1074+((min a b:Nat):Int):=by omega
  have c1:(-1074+(a:Int)-(-1074+((min a b:Nat):Int))).toNat=a-min a b:=by omega
  have c2:(-1074+(b:Int)-(-1074+((min a b:Nat):Int))).toNat=b-min a b:=by omega
  have d1:Ieee.signed (Ae3 x) m a=Ieee.signed (Ae3 x) m (a-min a b)*((2^min a b:Nat):Int):=by rw [← Bh7];congr 1;omega
  have d2:Ieee.signed (Ae3 y) n b=Ieee.signed (Ae3 y) n (b-min a b)*((2^min a b:Nat):Int):=by rw [← Bh7];congr 1;omega
  have hp:(0:Int)<((2^min a b:Nat):Int):=by have:=Nat.two_pow_pos (min a b);omega
  generalize ht:Ieee.signed (Ae3 x) m (a-min a b)+Ieee.signed (Ae3 y) n (b-min a b)=T at *
  have hT:Am3 x+Am3 y=T*((2^min a b:Nat):Int):=by rw [e1,e2,d1,d2,← Int.add_mul,ht]
  have z1:Am3 x+Am3 y=0↔T=0:=by
    rw [hT]
    constructor
    · intro h;rcases Int.mul_eq_zero.1 h with h | h;exact h;omega
    · intro h;rw [h,Int.zero_mul]
  have z2:Am3 x+Am3 y<0↔T<0:=by
    rw [hT]
    constructor
    · intro h
      rcases Int.lt_or_le T 0 with h1 | h1
      · exact h1
      · have:=Int.mul_nonneg h1 (Int.le_of_lt hp);omega
    · intro h;exact Int.mul_neg_of_neg_of_pos h hp
  have hf:As2 x y=Ieee.double.nearest (if T=0 then Ae3 x&&Ae3 y else decide (T<0)) T.natAbs (-1074+((min a b:Nat):Int)):=by
    unfold As2 Ieee.Format.add
    rw [hr,hs]
    simp only [Ieee.Datum.sum,c,c1,c2,ht]
    rfl
  obtain ⟨r,h1,h2,h3⟩:=Cv9 (if T=0 then Ae3 x&&Ae3 y else decide (T<0)) T.natAbs (-1074+((min a b:Nat):Int))
  refine ⟨r,?_,h2,?_⟩
  · rw [hf,h1]
    congr 1
    by_cases hz:T=0
    · rw [if_pos hz,if_pos (z1.2 hz)]
    · rw [if_neg hz,if_neg (fun h=>hz (z1.1 h))]
      exact decide_eq_decide.2 z2.symm
  · rw [z1,h3 (by omega)];omega
theorem Ga7 (r:Nat):Bq8 r=0↔r=0:=by
  constructor
  · intro h
    rcases Nat.eq_zero_or_pos r with h0 | h0
    · exact h0
    · have:=Bs9 h0
      have e:Bq8 0=0:=by decide
      omega
  · rintro rfl;decide
theorem Bc4 (x:Nat):Am3 x=0↔Ab2 x=0:=by
  unfold Am3
  rw [← Ga7]
  cases Ae3 x<;>simp
theorem Dz2 {x y:Nat} (hx:Ab2 x<9218868437227405312) (hy:Ab2 y<9218868437227405312):Ab2 (As2 x y)=0↔Am3 x+Am3 y=0:=by
  obtain ⟨r,h1,h2,h3⟩:=Dk4 hx hy
  rw [h1,Ff6 _ _ (by omega),h3]
theorem Fb3 {x y:Nat} (hx:Ab2 x<9218868437227405312) (hy:Ab2 y<9218868437227405312):As2 x y<18446744073709551616:=by
  obtain ⟨r,h1,h2,h3⟩:=Dk4 hx hy
  rw [h1];exact Bf2 _ _ (by omega)
theorem Cp8 {x y:Nat} (hx:Ab2 x<9218868437227405312) (hy:Ab2 y<9218868437227405312):isNaN (As2 x y)=false:=by
  obtain ⟨r,h1,h2,h3⟩:=Dk4 hx hy
  rw [Ad0,h1,Ff6 _ _ (by omega)];simp;omega
theorem Et1 {x y:Nat} (hx:Ab2 x=0) (hy:Ab2 y=0) (hl:y<18446744073709551616) (h:Ae3 x=Ae3 y):As2 x y=y:=by
  obtain ⟨r,h1,h2,h3⟩:=Dk4 (x:=x) (y:=y) (by omega) (by omega)
  have z:Am3 x+Am3 y=0:=by rw [(Bc4 x).2 hx,(Bc4 y).2 hy];rfl
  have hr:=h3.2 z
  subst hr
  rw [if_pos z,h,Bool.and_self] at h1
  rw [h1,Cn4 hl,hy]
  unfold Ieee.Format.word
  rw [sw]
  have e:Ae3 ((if Ae3 y=true then 9223372036854775808 else 0)+0)=Ae3 y:=by
    have:=Cn4 hl
    rw [hy] at this
    rw [← this]
  rw [e]
  cases Ae3 y<;>rfl
end Go.Eng
