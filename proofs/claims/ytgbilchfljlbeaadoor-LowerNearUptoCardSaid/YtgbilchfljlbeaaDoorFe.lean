/-
  Floats that stand for a whole number of at most 53 bits times a power of two: their words, their parts, times a power of two; a float's own odd number and power. No condition.
-/
import Derived.Test.YtgbilchfljlbeaaDoorOpp
import Derived.Test.YtgbilchfljlbeaaDoorBgo
set_option linter.all false
set_option maxRecDepth 100000
set_option maxHeartbeats 400000
set_option exponentiation.threshold 5000
namespace Go.Eng
open Go
theorem nearest_eqv {s:Bool} {m n i j:Nat} {p q:Int} (hn:n≠0) (h:m*2^i=n*2^j) (hp:p-i=q-j):Ieee.double.nearest s m p=Ieee.double.nearest s n q:=by
  have hm:m≠0:=by
    rintro rfl
    rw [Nat.zero_mul] at h
    rcases Nat.mul_eq_zero.1 h.symm with h | h
    · exact hn h
    · exact absurd h (Nat.ne_of_gt (Nat.two_pow_pos j))
  have a:=nearest_shift s hm (p-i) i
  have b:=nearest_shift s hn (q-j) j
  rw [show p-(i:Int)+i=p by omega] at a
  rw [show q-(j:Int)+j=q by omega] at b
  rw [← a,← b,h,hp]
theorem vmag_inj {r s:Nat} (h:vmag r=vmag s):r=s:=by
  rcases Nat.lt_trichotomy r s with g | g | g
  · have:=vmag_lt g;omega
  · exact g
  · have:=vmag_lt g;omega
structure Ex (f:Nat) (p:Int):Prop where
  ne:f≠0
  lt:f<9007199254740992
  lo : -1074≤p
  hi:p+(f.log2:Int)<1024
theorem Ex.log {f:Nat} {p:Int} (h:Ex f p):f.log2≤52:=by
  have:=(Nat.log2_lt h.ne).2 (show f<2^53 from h.lt)
  omega
def nW (f:Nat) (p:Int):Nat:=(p+(f.log2:Int)+1022).toNat*4503599627370496+f*2^(52-f.log2)
theorem Ex.frac {f:Nat} {p:Int} (h:Ex f p):4503599627370496≤f*2^(52-f.log2)∧f*2^(52-f.log2)<9007199254740992:=by
  have hl:=h.log
  have hlo:2^f.log2≤f:=Nat.log2_self_le h.ne
  have hhi:f<2^(f.log2+1):=Nat.lt_log2_self
  have p1:2^f.log2*2^(52-f.log2)=4503599627370496:=by rw [← Nat.pow_add,show f.log2+(52-f.log2)=52 by omega]
  have p2:2^(f.log2+1)*2^(52-f.log2)=9007199254740992:=by rw [← Nat.pow_add,show f.log2+1+(52-f.log2)=53 by omega]
  have q1:2^f.log2*2^(52-f.log2)≤f*2^(52-f.log2):=Nat.mul_le_mul_right _ hlo
  have q2:f*2^(52-f.log2)<2^(f.log2+1)*2^(52-f.log2):=Nat.mul_lt_mul_of_pos_right hhi (Nat.two_pow_pos _)
  omega
theorem near_normal {s:Bool} {f:Nat} {p:Int} (h:Ex f p) (hn : -1022≤p+(f.log2:Int)):Ieee.double.nearest s f p=Ieee.double.word s (nW f p)∧nW f p<9218868437227405312∧4503599627370496≤nW f p∧vmag (nW f p)=f*2^(p+1074).toNat:=by
  have hl:=h.log
  have h1:=h.lo
  have h2:=h.hi
  obtain ⟨g1,g2⟩:=h.frac
  have hr:nW f p<9218868437227405312:=by
    unfold nW
    have:(p+(f.log2:Int)+1022).toNat≤2045:=by omega
    have:=Nat.mul_le_mul_right 4503599627370496 this
    omega
  refine ⟨?_,hr,by unfold nW;omega,?_⟩
  · unfold Ieee.Format.nearest
    rw [if_neg h.ne,lp,fb,bn,ir]
    have e1:max (p+(f.log2:Int)-((52:Nat):Int)) (-1074)=p+(f.log2:Int)-52:=by omega
    have e2:(p-(p+(f.log2:Int)-52)).toNat=52-f.log2:=by omega
    have e3:(p+(f.log2:Int)-52-p).toNat=0:=by omega
    have e4:(p+(f.log2:Int)-52 - -1074).toNat=(p+(f.log2:Int)+1022).toNat:=by omega
    simp only [e1,e2,e3,e4,cut_none,Nat.shiftLeft_eq]
    show Ieee.double.word s (min (nW f p) 9218868437227405312)=_
    rw [Nat.min_eq_left (by omega)]
  · have e1:nW f p/4503599627370496-1=(p+(f.log2:Int)+1022).toNat:=by unfold nW;omega
    have e2:4503599627370496+nW f p%4503599627370496=f*2^(52-f.log2):=by unfold nW;omega
    unfold vmag
    rw [if_neg (by unfold nW;omega),e1,e2,Nat.mul_assoc,← Nat.pow_add]
    congr 2;omega
theorem near_ex (s:Bool) {f:Nat} {p:Int} (h:Ex f p):∃ r,Ieee.double.nearest s f p=Ieee.double.word s r∧r<9218868437227405312∧r≠0∧vmag r=f*2^(p+1074).toNat:=by
  by_cases hn : -1022≤p+(f.log2:Int)
  · obtain ⟨a,b,c,d⟩:=near_normal (s:=s) h hn
    exact ⟨_,a,b,by omega,d⟩
  · have h1:=h.lo
    have hv:f*2^(p+1074).toNat<4503599627370496:=by
      have h1':f*2^(p+1074).toNat<2^(f.log2+1)*2^(p+1074).toNat:=Nat.mul_lt_mul_of_pos_right Nat.lt_log2_self (Nat.two_pow_pos _)
      rw [← Nat.pow_add] at h1'
      have h2:2^(f.log2+1+(p+1074).toNat)≤2^52:=Nat.pow_le_pow_right (by omega) (by omega)
      have e52:(2:Nat)^52=4503599627370496:=by decide
      omega
    have hpos:0<f*2^(p+1074).toNat:=Nat.mul_pos (Nat.pos_of_ne_zero h.ne) (Nat.two_pow_pos _)
    refine ⟨f*2^(p+1074).toNat,?_,by omega,by omega,by unfold vmag;rw [if_pos hv]⟩
    unfold Ieee.Format.nearest
    rw [if_neg h.ne,lp,fb,bn,ir]
    have e1:max (p+(f.log2:Int)-((52:Nat):Int)) (-1074) = -1074:=by omega
    have e2:(p - -1074).toNat=(p+1074).toNat:=by omega
    have e3:(-1074-p).toNat=0:=by omega
    simp only [e1,e2,e3,Int.sub_self,Int.toNat_zero,Nat.zero_mul,Nat.zero_add,cut_none,Nat.shiftLeft_eq]
    rw [Nat.min_eq_left (by omega)]
theorem word_false (r:Nat):Ieee.double.word false r=r:=rfl
theorem near_self {f:Nat} {p:Int} (h:Ex f p):magF (Ieee.double.nearest false f p)=Ieee.double.nearest false f p∧negF (Ieee.double.nearest false f p)=false∧Ieee.double.nearest false f p<9218868437227405312∧Ieee.double.nearest false f p≠0∧vmag (Ieee.double.nearest false f p)=f*2^(p+1074).toNat:=by
  obtain ⟨r,a,b,c,d⟩:=near_ex false h
  rw [a,word_false]
  exact ⟨good_mag (by unfold goodF;omega),good_neg (by unfold goodF;omega),b,c,d⟩
theorem near_read {f:Nat} {p:Int} (h:Ex f p):∃ m a:Nat,Ieee.double.read (Ieee.double.nearest false f p) = .number false m (-1074+(a:Int))∧m*2^a=f*2^(p+1074).toNat:=by
  obtain ⟨h1,h2,h3,h4,h5⟩:=near_self h
  obtain ⟨m,a,hr,hv⟩:=read_fin (x:=Ieee.double.nearest false f p) (by omega)
  rw [h2] at hr
  rw [h1,h5] at hv
  exact ⟨m,a,hr,hv⟩
theorem fmul_pow {c f:Nat} {p k:Int} (h:Ex f p) (hc:Ieee.double.read c = .number false 4503599627370496 (k-52)):fmul c (Ieee.double.nearest false f p)=Ieee.double.nearest false f (p+k):=by
  obtain ⟨m,a,hr,hv⟩:=near_read h
  have h1:=h.lo
  unfold fmul Ieee.Format.mul
  rw [hc,hr]
  show Ieee.double.nearest (false ^^ false) (4503599627370496*m) (k-52+(-1074+(a:Int)))=_
  refine nearest_eqv (i:=a) (j:=52+(p+1074).toNat) h.ne ?_ (by omega)
  rw [Nat.mul_assoc,hv,Nat.pow_add,show (2:Nat)^52=4503599627370496 by decide]
  ac_rfl
theorem cutz_exact' {s:Bool} {n d:Nat} (hn:n≠0):Ieee.Toward.zero.cut s (n*2^d) d=n:=by
  unfold Ieee.Toward.cut
  have e:min d ((n*2^d).log2+2)=d:=by rw [log2_shift hn];omega
  have hp:0<2^d:=Nat.two_pow_pos d
  simp only [e,Nat.shiftLeft_eq,Nat.one_mul,Nat.mul_div_cancel _ hp,Nat.mul_mod_left]
  rfl
theorem f2i_near {g:Nat} (h0:g≠0) (h:g<9007199254740992):f2i (Ieee.double.nearest false g 0) .u64=some (g:Int):=by
  have hl:g.log2<53:=(Nat.log2_lt h0).2 (by simpa using h)
  have hx:Ex g 0:=⟨h0,h,by omega,by omega⟩
  obtain ⟨m,a,hr,hv⟩:=near_read hx
  rw [show ((0:Int)+1074).toNat=1074 from rfl] at hv
  have hi:Ieee.Toward.zero.cut false (m <<< (-1074+(a:Int)).toNat) (-(-1074+(a:Int))).toNat=g:=by
    rcases Nat.le_total a 1074 with k | k
    · have e1:(-1074+(a:Int)).toNat=0:=by omega
      have e2:(-(-1074+(a:Int))).toNat=1074-a:=by omega
      have e3:m=g*2^(1074-a):=by
        have:m*2^a=g*2^(1074-a)*2^a:=by rw [Nat.mul_assoc,← Nat.pow_add,show 1074-a+a=1074 by omega];exact hv
        exact Nat.eq_of_mul_eq_mul_right (Nat.two_pow_pos a) this
      rw [e1,e2,e3,Nat.shiftLeft_eq,Nat.pow_zero,Nat.mul_one]
      exact cutz_exact' h0
    · have e1:(-1074+(a:Int)).toNat=a-1074:=by omega
      have e2:(-(-1074+(a:Int))).toNat=0:=by omega
      have e3:m*2^(a-1074)=g:=by
        have:m*2^(a-1074)*2^1074=g*2^1074:=by rw [Nat.mul_assoc,← Nat.pow_add,show a-1074+1074=a by omega];exact hv
        exact Nat.eq_of_mul_eq_mul_right (Nat.two_pow_pos 1074) this
      rw [e1,e2,cut_zero,Nat.shiftLeft_eq,e3]
  have ht:(Ieee.double.read (Ieee.double.nearest false g 0)).toInt .zero=some (g:Int):=by
    rw [hr]
    show some (Ieee.signed false (Ieee.Toward.zero.cut false (m <<< (-1074+(a:Int)).toNat) (-(-1074+(a:Int))).toNat) 0)=_
    rw [hi]
    unfold Ieee.signed
    simp
  unfold f2i
  rw [ht]
  have:IntKind.min .u64≤(g:Int)∧(g:Int)≤IntKind.max .u64:=by
    simp [IntKind.min,IntKind.max,IntKind.signed,IntKind.bits]
    omega
  exact if_pos this
def sM (r:Nat):Nat:=if r<4503599627370496 then r else 4503599627370496+r%4503599627370496
def sP (r:Nat):Nat:=if r<4503599627370496 then 0 else r/4503599627370496-1
theorem sM_vmag (r:Nat):vmag r=sM r*2^sP r:=by
  unfold vmag sM sP
  split
  · simp
  · rfl
theorem sM_lt (r:Nat):sM r<9007199254740992:=by unfold sM;split<;>omega
theorem sM_ne {r:Nat} (h:r≠0):sM r≠0:=by unfold sM;split<;>omega
def oF (r:Nat):Nat:=sM r/2^tzN (sM r)
def oP (r:Nat):Int := -1074+(sP r:Int)+(tzN (sM r):Int)
theorem tz_spec {n:Nat} (h:n≠0):n=n/2^tzN n*2^tzN n∧n/2^tzN n%2=1:=by
  induction n using Nat.strongRecOn with
  | ind n ih=>
    rw [tzN_eq,if_neg h]
    by_cases h1:n%2=1
    · rw [if_pos h1];exact ⟨by simp,by simpa using h1⟩
    · rw [if_neg h1]
      obtain ⟨k1,k2⟩:=ih (n/2) (by omega) (by omega)
      have e:n/2^(tzN (n/2)+1)=n/2/2^tzN (n/2):=by rw [Nat.pow_succ,Nat.mul_comm,← Nat.div_div_eq_div_mul]
      rw [e]
      refine ⟨?_,k2⟩
      rw [Nat.pow_succ,← Nat.mul_assoc,← k1];omega
theorem own_ex {r:Nat} (h0:r≠0) (h:r<9218868437227405312):Ex (oF r) (oP r)∧oF r%2=1∧Ieee.double.nearest false (oF r) (oP r)=r∧vmag r=oF r*2^(oP r+1074).toNat:=by
  have hm:=sM_ne h0
  obtain ⟨k1,k2⟩:=tz_spec hm
  have hlt:=sM_lt r
  have hne:oF r≠0:=by unfold oF;omega
  have hle:oF r≤sM r:=Nat.div_le_self _ _
  have hlog:(sM r).log2=(oF r).log2+tzN (sM r):=by
    conv=>lhs;rw [k1]
    exact log2_shift hne _
  have hs:(sP r:Int)+((sM r).log2:Int)<2098:=by
    by_cases c:r<4503599627370496
    · have e1:sP r=0:=by unfold sP;rw [if_pos c]
      have:(sM r).log2<53:=(Nat.log2_lt hm).2 (by simpa using hlt)
      omega
    · have e1:sP r=r/4503599627370496-1:=by unfold sP;rw [if_neg c]
      have:(sM r).log2<53:=(Nat.log2_lt hm).2 (by simpa using hlt)
      omega
  have ex:Ex (oF r) (oP r):=⟨hne,by omega,by unfold oP;omega,by unfold oP;omega⟩
  have hv:vmag r=oF r*2^(oP r+1074).toNat:=by
    have e:(oP r+1074).toNat=tzN (sM r)+sP r:=by unfold oP;omega
    rw [sM_vmag,e,Nat.pow_add,← Nat.mul_assoc]
    congr 1
  refine ⟨ex,k2,?_,hv⟩
  obtain ⟨a1,a2,a3,a4,a5⟩:=near_self ex
  exact vmag_inj (by rw [a5,hv])
theorem and_low (x:Nat) (hx:x<9223372036854775808):(BitVec.ofInt IntKind.u64.bits (x:Int) &&& ~~~BitVec.ofInt IntKind.u64.bits 9218868437227405312).toNat=x%4503599627370496:=by
  rw [BitVec.toNat_and,u64_toNat]
  have h2:(~~~BitVec.ofInt IntKind.u64.bits 9218868437227405312).toNat=2^63+(2^52-1):=by decide
  rw [h2,Nat.mod_eq_of_lt (by omega)]
  have e1:=Nat.and_mod_two_pow (a:=x) (b:=2^63+(2^52-1)) (n:=52)
  have e2:=Nat.and_div_two_pow (a:=x) (b:=2^63+(2^52-1)) (n:=52)
  have m1:(2^63+(2^52-1))%2^52=2^52-1:=by decide
  have m2:(2^63+(2^52-1))/2^52=2^11:=by decide
  rw [m1,Nat.and_two_pow_sub_one_eq_mod,Nat.mod_mod] at e1
  rw [m2] at e2
  have z:x/2^52 &&& 2^11=0:=by
    have f1:=Nat.and_mod_two_pow (a:=x/2^52) (b:=2^11) (n:=11)
    have f2:=Nat.and_div_two_pow (a:=x/2^52) (b:=2^11) (n:=11)
    rw [Nat.mod_self,Nat.and_zero] at f1
    rw [Nat.div_self (by decide),Nat.and_one_is_mod] at f2
    generalize (x/2^52 &&& 2^11)=z at *
    omega
  rw [z] at e2
  generalize (x &&& 2^63+(2^52-1))=y at *
  omega
theorem or_exp {a E:Nat} (ha:a<4503599627370496) (hE:E<2048):(BitVec.ofInt IntKind.u64.bits (a:Int) ||| BitVec.ofInt IntKind.u64.bits ((E*4503599627370496:Nat):Int)).toNat=E*4503599627370496+a:=by
  rw [BitVec.toNat_or,u64_toNat,u64_toNat,Nat.mod_eq_of_lt (by omega),Nat.mod_eq_of_lt (by omega)]
  have:=Nat.two_pow_add_eq_or_of_lt (show a<2^52 by omega) E
  rw [Nat.or_comm,Nat.mul_comm E,show (4503599627370496:Nat)=2^52 by decide,← this]
theorem and_exp (x:Nat) (hx:x<9223372036854775808):(BitVec.ofInt IntKind.u64.bits ((x/4503599627370496:Nat):Int) &&& BitVec.ofInt IntKind.u64.bits 2047).toNat=x/4503599627370496:=by
  rw [BitVec.toNat_and,u64_toNat]
  have h2:(BitVec.ofInt IntKind.u64.bits 2047).toNat=2^11-1:=by decide
  rw [h2,Nat.and_two_pow_sub_one_eq_mod]
  omega
theorem and_expI (x:Nat) (hx:x<9223372036854775808):(BitVec.ofInt IntKind.i64.bits ((x/4503599627370496:Nat):Int) &&& BitVec.ofInt IntKind.i64.bits 2047).toNat=x/4503599627370496:=and_exp x hx
end Go.Eng
