/-
  Plain facts for the contracts written by hand: fields of floats, marks. No condition.
-/
import Derived.Test.YtgbilchfljlbeaaDoorTw3
import Derived.Test.YtgbilchfljlbeaaDoorFlz3
import Derived.Test.YtgbilchfljlbeaaDoorFl2
set_option linter.all false
set_option maxRecDepth 100000
set_option maxHeartbeats 4000000
namespace Go.Eng
open Go
theorem nf_zero:nf 0=0:=by decide +kernel
theorem wrS {k n:Nat} (h:k<n) (hn:n≤4294967296):IntKind.i64.wrap ((k:Int)+1)=((k+1:Nat):Int):=by rw [← wrN (n:=k+1) (by omega)];rfl
theorem u64_toNat (n:Nat):(BitVec.ofInt IntKind.u64.bits (n:Int)).toNat=n%18446744073709551616:=by
  show (BitVec.ofInt 64 (n:Int)).toNat=_
  rw [BitVec.toNat_ofInt];simp;omega
theorem abs_bits (x:Nat):(IntKind.u64.wrap ((BitVec.ofInt IntKind.u64.bits (x:Int) &&& ~~~BitVec.ofInt IntKind.u64.bits 9223372036854775808).toNat:Int)).toNat=magF x:=by
  have h1:(BitVec.ofInt IntKind.u64.bits (x:Int) &&& ~~~BitVec.ofInt IntKind.u64.bits 9223372036854775808).toNat=magF x:=by
    rw [BitVec.toNat_and,u64_toNat]
    have h2:(~~~BitVec.ofInt IntKind.u64.bits 9223372036854775808).toNat=2^63-1:=by decide
    rw [h2,Nat.and_two_pow_sub_one_eq_mod]
    unfold magF;omega
  rw [h1]
  have:=magF_lt x
  simp only [IntKind.wrap,IntKind.bits,IntKind.signed];simp;omega
theorem sign_bits (x:Nat):decide (IntKind.i64.wrap (x:Int)<0)=negF x:=by
  have h:IntKind.i64.wrap (x:Int)<0↔x/9223372036854775808%2=1:=by
    simp only [IntKind.wrap,IntKind.bits,IntKind.signed];simp;omega
  unfold negF
  rw [Bool.eq_iff_iff];simp [h]
theorem copy_bits (x y:Nat):(IntKind.u64.wrap ((BitVec.ofInt IntKind.u64.bits (IntKind.u64.wrap ((BitVec.ofInt IntKind.u64.bits (x:Int) &&& ~~~BitVec.ofInt IntKind.u64.bits 9223372036854775808).toNat:Int)) ||| BitVec.ofInt IntKind.u64.bits (IntKind.u64.wrap ((BitVec.ofInt IntKind.u64.bits (y:Int) &&& BitVec.ofInt IntKind.u64.bits 9223372036854775808).toNat:Int))).toNat:Int)).toNat=(if negF y then 9223372036854775808 else 0)+magF x:=by
  have hm:=magF_lt x
  have h1:=abs_bits x
  have h0:0≤IntKind.u64.wrap ((BitVec.ofInt IntKind.u64.bits (x:Int) &&& ~~~BitVec.ofInt IntKind.u64.bits 9223372036854775808).toNat:Int):=by
    simp only [IntKind.wrap,IntKind.bits,IntKind.signed];simp;omega
  have h1':IntKind.u64.wrap ((BitVec.ofInt IntKind.u64.bits (x:Int) &&& ~~~BitVec.ofInt IntKind.u64.bits 9223372036854775808).toNat:Int)=(magF x:Int):=by omega
  rw [h1']
  have h2:(BitVec.ofInt IntKind.u64.bits (y:Int) &&& BitVec.ofInt IntKind.u64.bits 9223372036854775808).toNat=(if negF y then 9223372036854775808 else 0):=by
    rw [BitVec.toNat_and,u64_toNat]
    have h3:(BitVec.ofInt IntKind.u64.bits 9223372036854775808).toNat=2^63:=by decide
    rw [h3]
    have e1:=Nat.and_mod_two_pow (a:=y%18446744073709551616) (b:=2^63) (n:=63)
    have e2:=Nat.and_div_two_pow (a:=y%18446744073709551616) (b:=2^63) (n:=63)
    rw [Nat.mod_self,Nat.and_zero] at e1
    rw [Nat.div_self (by decide),Nat.and_one_is_mod] at e2
    generalize hz:(y%18446744073709551616) &&& 2^63=z at *
    unfold negF
    by_cases h4:y/9223372036854775808%2=1
    · simp only [h4,beq_self_eq_true,if_true];omega
    · have h5:y/9223372036854775808%2=0:=by omega
      rw [h5]
      show z=0
      omega
  rw [h2]
  have h5:∀ k:Nat,k<18446744073709551616→IntKind.u64.wrap (k:Int)=(k:Int):=by
    intro k hk
    simp only [IntKind.wrap,IntKind.bits,IntKind.signed];simp;omega
  have h7:IntKind.u64.wrap (((if negF y then 9223372036854775808 else 0:Nat)):Int)=(((if negF y then 9223372036854775808 else 0:Nat)):Int):=h5 _ (by split<;>omega)
  rw [h7]
  have h6:(BitVec.ofInt IntKind.u64.bits (magF x:Int) ||| BitVec.ofInt IntKind.u64.bits (((if negF y then 9223372036854775808 else 0:Nat)):Int)).toNat=(if negF y then 9223372036854775808 else 0)+magF x:=by
    rw [BitVec.toNat_or,u64_toNat,u64_toNat]
    rw [Nat.mod_eq_of_lt (by omega),Nat.mod_eq_of_lt (by split<;>omega)]
    cases negF y
    · simp
    · simp only [if_true]
      have:=Nat.two_pow_add_eq_or_of_lt (i:=63) (b:=magF x) (by omega) 1
      rw [Nat.or_comm]
      simpa using this.symm
  rw [h6,h5 _ (by split<;>omega)]
  omega
theorem slBase0 (a:Option Addr) (c size:Nat):slBase a 0 c size=a:=by
  unfold slBase
  split
  · rfl
  · cases a with
    | none=>rfl
    | some x=>simp [add_zero']
theorem rdA.reals {w:World} {a:Option Addr} {n c:Nat} {l:List Nat} (h:rdA (l.map (Value.float .f64)) a n c w):Reals w a n c l:=by
  have hn:l.length=n:=by rw [h.len,List.length_map]
  refine ⟨hn,h.cap,fun i hi=>?_⟩
  obtain ⟨x,hx,hc⟩:=h.at_ i (by omega)
  refine ⟨x,hx,?_⟩
  rw [hc];simp [hi]
theorem nf_magF (x:Nat):nf (magF (nf x))=nf (magF x):=by
  cases h:isNaN x with
  | false=>rw [nf_of_not h]
  | true=>
    have h1:isNaN (magF x)=true:=by
      have e:magF (magF x)=magF x:=by unfold magF;omega
      rw [isNaN_mag] at h ⊢
      rw [e];exact h
    rw [nf_of_nan h,nf_of_nan h1]
    decide +kernel
theorem nf_copy (s:Bool) (x:Nat):nf ((if s then 9223372036854775808 else 0)+magF (nf x))=nf ((if s then 9223372036854775808 else 0)+magF x):=by
  cases h:isNaN x with
  | false=>rw [nf_of_not h]
  | true=>
    have hm:∀ y,magF ((if s then 9223372036854775808 else 0)+magF y)=magF y:=by
      intro y
      have:=magF_lt y
      unfold magF at *
      split<;>omega
    have h1:isNaN ((if s then 9223372036854775808 else 0)+magF x)=true:=by
      rw [isNaN_mag] at h ⊢
      rw [hm];exact h
    have h2:isNaN ((if s then 9223372036854775808 else 0)+magF (nf x))=true:=by
      rw [isNaN_mag,hm,← isNaN_mag,isNaN_nf];exact h
    rw [nf_of_nan h1,nf_of_nan h2]
end Go.Eng
/-
  Plain lemmas on the twins' words: rounds with a number that goes up, reads and writes at whole numbers, lists filled from the front. No condition.
-/
namespace Go.Eng
open Go
theorem iter_nat {τ ω:Type} {b:τ→Option (τ⊕ω)} (S:Nat→τ) {o:ω} (n:Nat) (hn:n<FU) (hstep:∀ i,i<n→b (S i)=some (.inl (S (i+1)))) (hstop:b (S n)=some (.inr o)):iter b FU (S 0)=some o:=by
  have key:∀ k i m,i+k=n→k<m→iter b m (S i)=some o:=by
    intro k
    induction k with
    | zero=>
      intro i m hi hm
      obtain ⟨m,rfl⟩:∃ q,m=q+1:=⟨m-1,by omega⟩
      have:i=n:=by omega
      subst this
      rw [iter_succ,hstop]
    | succ k ih=>
      intro i m hi hm
      obtain ⟨m,rfl⟩:∃ q,m=q+1:=⟨m-1,by omega⟩
      rw [iter_succ,hstep i (by omega)]
      exact ih (i+1) m (by omega) (by omega)
  exact key n 0 FU (by omega) hn
theorem FU_eq:FU=18446744073709551616:=rfl
theorem wrU {n:Nat} (h:n+1<9223372036854775808):IntKind.i64.wrap ((n:Int)+1)=((n+1:Nat):Int):=by
  rw [← wrN (n:=n+1) (by omega)];rfl
theorem wrMul {a b:Nat} (h:a*b<9223372036854775808):IntKind.i64.wrap ((a:Int)*(b:Int))=((a*b:Nat):Int):=by
  rw [← wrN h];simp
theorem wrAdd {a b:Nat} (h:a+b<9223372036854775808):IntKind.i64.wrap ((a:Int)+(b:Int))=((a+b:Nat):Int):=by
  rw [← wrN h];simp
theorem idxL {i j rows cols:Nat} (hi:i<rows) (hj:j<cols):i*cols+j<rows*cols:=by
  have:(i+1)*cols≤rows*cols:=Nat.mul_le_mul_right _ hi
  rw [Nat.succ_mul] at this
  omega
theorem wrIdx {i j rows cols:Nat} (hi:i<rows) (hj:j<cols) (hb:rows*cols<9223372036854775808):IntKind.i64.wrap (IntKind.i64.wrap ((i:Int)*(cols:Int))+(j:Int))=((i*cols+j:Nat):Int):=by
  have:=idxL hi hj
  rw [wrMul (by omega),wrAdd (by omega)]
section
variable {α:Type}
theorem at_nat {l:List α} {i:Nat} (h:i<l.length):atI l (i:Int)=some l[i]:=by
  unfold atI
  rw [if_pos (by omega),Int.toNat_natCast,List.getElem?_eq_getElem h]
theorem at_getD {l:List α} {i:Nat} (d:α) (h:i<l.length):atI l (i:Int)=some (l.getD i d):=by
  rw [at_nat h,List.getD_eq_getElem?_getD,List.getElem?_eq_getElem h];rfl
theorem sub_nat {l:List α} {i j:Nat} (h1:i≤j) (h2:j≤l.length):subL l (i:Int) (j:Int)=some ((l.drop i).take (j-i)):=by
  unfold subL
  rw [if_pos ⟨by omega,by omega,by simpa using h2⟩,Int.toNat_natCast,Int.toNat_natCast]
theorem mk_nat {d:α} {n:Nat} (h:n≤1099511627776):mkL d (n:Int) (n:Int)=some (List.replicate n d):=by
  unfold mkL
  rw [if_pos ⟨by omega,by omega,by omega⟩,Int.toNat_natCast]
theorem app_le {l m:List α} (h:l.length+m.length≤4294967296):appL l m=some (l++m):=by
  unfold appL
  rw [if_pos h]
def filled (n:Nat) (z:α) (G:Nat→α) (k:Nat):List α:=(List.range k).map G++List.replicate (n-k) z
theorem filled_len {n k:Nat} {z:α} {G:Nat→α} (h:k≤n):(filled n z G k).length=n:=by
  unfold filled;simp;omega
theorem filled_zero {n:Nat} {z:α} {G:Nat→α}:filled n z G 0=List.replicate n z:=by simp [filled]
theorem filled_full {n:Nat} {z:α} {G:Nat→α}:filled n z G n=(List.range n).map G:=by simp [filled]
theorem filled_set {n k:Nat} {z:α} {G:Nat→α} (h:k<n):(filled n z G k).set k (G k)=filled n z G (k+1):=by
  unfold filled
  rw [List.set_append_right _ _ (by simp)]
  simp only [List.length_map,List.length_range,Nat.sub_self]
  rw [List.range_succ,List.map_append,List.append_assoc]
  congr 1
  obtain ⟨m,hm⟩:∃ m,n-k=m+1:=⟨n-k-1,by omega⟩
  have hm':n-(k+1)=m:=by omega
  rw [hm,hm']
  simp [List.replicate_succ]
theorem map_range_snoc {k:Nat} {G:Nat→α}:(List.range k).map G ++ [G k]=(List.range (k+1)).map G:=by
  rw [List.range_succ,List.map_append];rfl
theorem ext_getD {l m:List α} (d:α) (hl:l.length=m.length) (h:∀ i,i<l.length→l.getD i d=m.getD i d):l=m:=by
  apply List.ext_getElem hl
  intro i h1 h2
  have:=h i h1
  simpa [List.getD_eq_getElem?_getD,h1,h2] using this
theorem const_range {z:α} (n:Nat):(List.range n).map (fun _=>z)=List.replicate n z:=by
  apply List.eq_replicate_iff.2
  refine ⟨by simp,fun b hb=>?_⟩
  obtain ⟨k,_,rfl⟩:=List.mem_map.1 hb
  rfl
theorem first_mark (p:Nat→Bool):∀ n,(∀ i,i<n→p i=false)∨∃ i,i<n∧p i=true∧∀ j,j<i→p j=false
  | 0 => .inl fun i h=>by omega
  | n+1=>by
    rcases first_mark p n with h | ⟨i,h1,h2,h3⟩
    · cases hp:p n with
      | false=>
        refine .inl fun i hi=>?_
        by_cases e:i=n
        · subst e;exact hp
        · exact h i (by omega)
      | true=>exact .inr ⟨n,by omega,hp,h⟩
    · exact .inr ⟨i,by omega,h2,h3⟩
end
theorem cT {α:Type} {a b:α}:cond true a b=a:=rfl
theorem cF {α:Type} {a b:α}:cond false a b=b:=rfl
theorem cond_t {α:Type} {c:Bool} {x y:α} (h:c=true):cond c x y=x:=by subst h;rfl
theorem cond_f {α:Type} {c:Bool} {x y:α} (h:c=false):cond c x y=y:=by subst h;rfl
theorem eq_cond {α:Type} {c:Bool} {x y z:α} (h1:c=true→x=z) (h2:c=false→y=z):cond c x y=z:=by
  cases c
  · exact h2 rfl
  · exact h1 rfl
end Go.Eng
/-
  Sums of products of floats, in order. No condition.
-/
namespace Go.Eng
open Go
theorem product_comm (a b:Ieee.Datum):a.product b=b.product a:=by
  cases a<;>cases b<;>simp [Ieee.Datum.product,Bool.xor_comm,Nat.mul_comm,Int.add_comm]
theorem fmul_comm (x y:Nat):fmul x y=fmul y x:=by
  unfold fmul Ieee.Format.mul
  rw [product_comm]
end Go.Eng
/-
  Sums rounded to a side: plain definitions and laws. No condition.
-/
set_option maxRecDepth 100000
set_option maxHeartbeats 4000000
namespace Go.Eng
open Go
def goodF (s:Nat):Prop:=s≤9218868437227405312
theorem good_mag {s:Nat} (h:goodF s):magF s=s:=Nat.mod_eq_of_lt (by unfold goodF at h;omega)
theorem good_neg {s:Nat} (h:goodF s):negF s=false:=by
  unfold negF
  rw [Nat.div_eq_of_lt (by unfold goodF at h;omega)];rfl
theorem good_sval {s:Nat} (h:goodF s):sval s=(vmag s:Int):=by unfold sval;rw [good_neg h,good_mag h];rfl
theorem order_good {x y:Nat} (hx:goodF x) (hy:goodF y):Ieee.double.order x y=some (compare x y):=by
  have mx:=good_mag hx
  have my:=good_mag hy
  have cmp:∀ a b:Nat,compare (vmag a:Int) (vmag b:Int)=compare a b:=fun a b=>by
    rcases Nat.lt_trichotomy a b with h | h | h
    · rw [Int.compare_eq_lt.2 (by have:=vmag_lt h;omega),Nat.compare_eq_lt.2 h]
    · subst h;rw [Int.compare_eq_eq.2 rfl,Nat.compare_eq_eq.2 rfl]
    · rw [Int.compare_eq_gt.2 (by have:=vmag_lt h;omega),Nat.compare_eq_gt.2 h]
  unfold goodF at hx hy
  rcases Nat.lt_or_ge x 9218868437227405312 with h1 | h1
  · rcases Nat.lt_or_ge y 9218868437227405312 with h2 | h2
    · rw [order_fin (by omega) (by omega),good_sval hx,good_sval hy,cmp]
    · have e:y=9218868437227405312:=by omega
      unfold Ieee.Format.order
      obtain ⟨m,a,hr,_⟩:=read_fin (x:=x) (by omega)
      rw [hr,read_inf (x:=y) (by omega),good_neg hy,Nat.compare_eq_lt.2 (by omega)]
      rfl
  · have e:x=9218868437227405312:=by omega
    rcases Nat.lt_or_ge y 9218868437227405312 with h2 | h2
    · unfold Ieee.Format.order
      obtain ⟨m,a,hr,_⟩:=read_fin (x:=y) (by omega)
      rw [hr,read_inf (x:=x) (by omega),good_neg hx,Nat.compare_eq_gt.2 (by omega)]
      rfl
    · have e2:y=x:=by omega
      subst e2
      unfold Ieee.Format.order
      rw [read_inf (x:=y) (by omega),Nat.compare_eq_eq.2 rfl]
      show some (compare (negF y).toNat (negF y).toNat)=_
      rw [Nat.compare_eq_eq.2 rfl]
end Go.Eng
/-
  Rounding to the nearest: it hangs on the value alone; what a word reads as is written back to that word; once a number is that number. No condition.
-/
set_option maxRecDepth 100000
namespace Go.Eng
theorem log2_shift {m:Nat} (hm:m≠0) (k:Nat):(m*2^k).log2=m.log2+k:=by
  induction k with
  | zero=>simp
  | succ k ih=>
    have e:m*2^(k+1)=2*(m*2^k):=by rw [Nat.pow_succ];ac_rfl
    have hp:0<m*2^k:=Nat.mul_pos (by omega) (Nat.two_pow_pos k)
    rw [e,Nat.log2_two_mul (by omega),ih];rfl
theorem cut_exact {s:Bool} {n d:Nat} (hn:n≠0):Ieee.Toward.even.cut s (n*2^d) d=n:=by
  unfold Ieee.Toward.cut
  have e:min d ((n*2^d).log2+2)=d:=by rw [log2_shift hn];omega
  have hp:0<2^d:=Nat.two_pow_pos d
  simp only [e,Nat.shiftLeft_eq,Nat.one_mul,Nat.mul_div_cancel _ hp,Nat.mul_mod_left]
  have h1:decide (2^d<2*0)=false:=by simp
  have h2:(2^d==2*0)=false:=by
    have:2^d≠0:=by omega
    simpa using this
  rw [h1,h2];simp
theorem cut_shift {s:Bool} {n d k:Nat} (hn:n≠0):Ieee.Toward.even.cut s (n*2^k) (d+k)=Ieee.Toward.even.cut s n d:=by
  unfold Ieee.Toward.cut
  have e:min (d+k) ((n*2^k).log2+2)=min d (n.log2+2)+k:=by rw [log2_shift hn];omega
  have hp:0<2^k:=Nat.two_pow_pos k
  simp only [e,Nat.shiftLeft_eq,Nat.one_mul,Nat.pow_add]
  generalize 2^min d (n.log2+2)=g
  generalize 2^k=q at *
  rw [Nat.mul_div_mul_right _ _ hp,Nat.mul_mod_mul_right]
  have h1:decide (g*q<2*(n%g*q))=decide (g<2*(n%g)):=by
    rw [← Nat.mul_assoc,decide_eq_decide]
    exact Nat.mul_lt_mul_right hp
  have h2:(g*q==2*(n%g*q))=(g==2*(n%g)):=by
    rw [← Nat.mul_assoc,Bool.eq_iff_iff]
    simp only [beq_iff_eq]
    exact ⟨fun h=>Nat.eq_of_mul_eq_mul_right hp h,fun h=>congrArg (· * q) h⟩
  rw [h1,h2]
theorem nearest_shift (s:Bool) {m:Nat} (hm:m≠0) (p:Int) (k:Nat):Ieee.double.nearest s (m*2^k) p=Ieee.double.nearest s m (p+k):=by
  have hmk:m*2^k≠0:=Nat.mul_ne_zero hm (by have:=Nat.two_pow_pos k;omega)
  unfold Ieee.Format.nearest
  rw [if_neg hmk,if_neg hm,log2_shift hm]
  have e:p+((m.log2+k:Nat):Int)-(Ieee.double.fractionBits:Int)=p+(k:Int)+(m.log2:Int)-(Ieee.double.fractionBits:Int):=by omega
  simp only [e]
  generalize max (p+(k:Int)+(m.log2:Int)-(Ieee.double.fractionBits:Int)) Ieee.double.leastPlace=L
  have key:Ieee.Toward.even.cut s ((m*2^k) <<< (p-L).toNat) (L-p).toNat=Ieee.Toward.even.cut s (m <<< (p+k-L).toNat) (L-(p+k)).toNat:=by
    rw [Nat.shiftLeft_eq,Nat.shiftLeft_eq]
    rcases Int.le_total L p with h | h
    · have e1:(L-p).toNat=0:=by omega
      have e2:(L-(p+k)).toNat=0:=by omega
      have e3:(p+k-L).toNat=k+(p-L).toNat:=by omega
      rw [e1,e2,e3,Nat.pow_add,Nat.mul_assoc]
    · have e1:(p-L).toNat=0:=by omega
      rw [e1,Nat.pow_zero,Nat.mul_one]
      rcases Int.le_total L (p+k) with h2 | h2
      · have e2:(L-(p+k)).toNat=0:=by omega
        obtain ⟨d,hd⟩:∃ d:Nat,L-p=d:=Int.eq_ofNat_of_zero_le (by omega)
        have e3:(L-p).toNat=d:=by omega
        have e4:(p+k-L).toNat=k-d:=by omega
        have e5:m*2^k=(m*2^(k-d))*2^d:=by rw [Nat.mul_assoc,← Nat.pow_add];congr 2;omega
        have hz:m*2^(k-d)≠0:=Nat.mul_ne_zero hm (by have:=Nat.two_pow_pos (k-d);omega)
        rw [e2,e3,e4,e5,cut_exact hz]
        have:=cut_exact (s:=s) (d:=0) hz
        rw [Nat.pow_zero,Nat.mul_one] at this
        rw [this]
      · have e2:(p+k-L).toNat=0:=by omega
        have e3:(L-p).toNat=(L-(p+k)).toNat+k:=by omega
        rw [e2,e3,Nat.pow_zero,Nat.mul_one,cut_shift hm]
  rw [key]
theorem cut_none {s:Bool} {n:Nat}:Ieee.Toward.even.cut s n 0=n:=cut_zero _ s n
end Go.Eng
/-
  Floats that are opposite to each other (or both zeros, or both NaN), kept by differences, products and quotients. No condition.
-/
set_option maxRecDepth 100000
set_option maxHeartbeats 4000000
namespace Go.Eng
def Opp (x y:Nat):Prop:=(isNaN x=true∧isNaN y=true)∨(isNaN x=false∧magF x=magF y∧(magF x=0∨negF y = !negF x))
theorem mag_word {s:Bool} {r:Nat} (h:r≤9218868437227405312):magF (Ieee.double.word s r)=r:=by
  unfold magF Ieee.Format.word
  rw [sw]
  cases s<;>simp<;>omega
theorem neg_word {s:Bool} {r:Nat} (h:r≤9218868437227405312):negF (Ieee.double.word s r)=s:=by
  unfold negF Ieee.Format.word
  rw [sw]
  cases s<;>simp<;>omega
end Go.Eng
