/-
  Plain facts for the contracts written by hand: fields of floats, Bf3. No condition.
-/
import Derived.Test.YtgbilchfljlbeaaGreatDoorTw4
import Derived.Test.YtgbilchfljlbeaaGreatDoorFlz3
import Derived.Test.YtgbilchfljlbeaaGreatDoorFl2
set_option linter.all false
set_option maxRecDepth 100000
set_option maxHeartbeats 4000000
namespace Go.Eng
open Go
theorem Ah1:nf 0=0:=by decide +kernel
def Cw1 (x:Nat):Nat:=x/4503599627370496%2048
def Bk2 (x:Nat):Nat:=x%4503599627370496
theorem Ep3 (x:Nat):isNaN x=(decide (Cw1 x=2047)&&decide (Bk2 x≠0)):=by
  unfold isNaN Ieee.Format.read
  rw [sw,ir,bn]
  have e:x%9223372036854775808=Cw1 x*4503599627370496+Bk2 x:=by unfold Cw1 Bk2;omega
  have hf:Bk2 x<4503599627370496:=Nat.mod_lt _ (by omega)
  have he:Cw1 x<2048:=Nat.mod_lt _ (by omega)
  rw [Bool.eq_iff_iff]
  simp only [e,Bool.and_eq_true,decide_eq_true_eq]
  constructor
  · intro h
    split at h
    · cases h
    · split at h
      · cases h
      · split at h
        · cases h
        · omega
  · rintro ⟨h1,h2⟩
    rw [if_neg (by omega),if_neg (by omega),if_neg (by omega)]
    rfl
theorem Bb7 (n:Nat):(BitVec.ofInt IntKind.u64.bits (n:Int)).toNat=n%18446744073709551616:=by
  show (BitVec.ofInt 64 (n:Int)).toNat=_
  rw [BitVec.toNat_ofInt];simp;omega
theorem Fj6 (x:Nat):(IntKind.u64.wrap ((BitVec.ofInt IntKind.u64.bits (x:Int) &&& ~~~BitVec.ofInt IntKind.u64.bits 9223372036854775808).toNat:Int)).toNat=Ab2 x:=by
  have h1:(BitVec.ofInt IntKind.u64.bits (x:Int) &&& ~~~BitVec.ofInt IntKind.u64.bits 9223372036854775808).toNat=Ab2 x:=by
    rw [BitVec.toNat_and,Bb7]
    have h2:(~~~BitVec.ofInt IntKind.u64.bits 9223372036854775808).toNat=2^63-1:=by decide
    rw [h2,Nat.and_two_pow_sub_one_eq_mod]
    unfold Ab2;omega
  rw [h1]
  have:=Bs0 x
  simp only [IntKind.wrap,IntKind.bits,IntKind.signed];simp;omega
theorem Ga5 (x:Nat):decide (IntKind.i64.wrap (x:Int)<0)=Ae3 x:=by
  have h:IntKind.i64.wrap (x:Int)<0↔x/9223372036854775808%2=1:=by
    simp only [IntKind.wrap,IntKind.bits,IntKind.signed];simp;omega
  unfold Ae3
  rw [Bool.eq_iff_iff];simp [h]
theorem Fy7 (x y:Nat):(IntKind.u64.wrap ((BitVec.ofInt IntKind.u64.bits (IntKind.u64.wrap ((BitVec.ofInt IntKind.u64.bits (x:Int) &&& ~~~BitVec.ofInt IntKind.u64.bits 9223372036854775808).toNat:Int)) ||| BitVec.ofInt IntKind.u64.bits (IntKind.u64.wrap ((BitVec.ofInt IntKind.u64.bits (y:Int) &&& BitVec.ofInt IntKind.u64.bits 9223372036854775808).toNat:Int))).toNat:Int)).toNat=(if Ae3 y then 9223372036854775808 else 0)+Ab2 x:=by
  have hm:=Bs0 x
  have h1:=Fj6 x
  have h0:0≤IntKind.u64.wrap ((BitVec.ofInt IntKind.u64.bits (x:Int) &&& ~~~BitVec.ofInt IntKind.u64.bits 9223372036854775808).toNat:Int):=by
    simp only [IntKind.wrap,IntKind.bits,IntKind.signed];simp;omega
  have h1':IntKind.u64.wrap ((BitVec.ofInt IntKind.u64.bits (x:Int) &&& ~~~BitVec.ofInt IntKind.u64.bits 9223372036854775808).toNat:Int)=(Ab2 x:Int):=by omega
  rw [h1']
  have h2:(BitVec.ofInt IntKind.u64.bits (y:Int) &&& BitVec.ofInt IntKind.u64.bits 9223372036854775808).toNat=(if Ae3 y then 9223372036854775808 else 0):=by
    rw [BitVec.toNat_and,Bb7]
    have h3:(BitVec.ofInt IntKind.u64.bits 9223372036854775808).toNat=2^63:=by decide
    rw [h3]
    have e1:=Nat.and_mod_two_pow (a:=y%18446744073709551616) (b:=2^63) (n:=63)
    have e2:=Nat.and_div_two_pow (a:=y%18446744073709551616) (b:=2^63) (n:=63)
    rw [Nat.mod_self,Nat.and_zero] at e1
    rw [Nat.div_self (by decide),Nat.and_one_is_mod] at e2
    generalize hz:(y%18446744073709551616) &&& 2^63=z at *
    unfold Ae3
    by_cases h4:y/9223372036854775808%2=1
    · simp only [h4,beq_self_eq_true,if_true];omega
    · have h5:y/9223372036854775808%2=0:=by omega
      rw [h5]
      show z=0
      omega
  rw [h2]
  have h5:∀ k:Nat,k<18446744073709551616→IntKind.u64.wrap (k:Int)=(k:Int):=by
    intro k hk
    simp only [IntKind.wrap,IntKind.bits,IntKind.signed];simp;omega
  have h7:IntKind.u64.wrap (((if Ae3 y then 9223372036854775808 else 0:Nat)):Int)=(((if Ae3 y then 9223372036854775808 else 0:Nat)):Int):=h5 _ (by split<;>omega)
  rw [h7]
  have h6:(BitVec.ofInt IntKind.u64.bits (Ab2 x:Int) ||| BitVec.ofInt IntKind.u64.bits (((if Ae3 y then 9223372036854775808 else 0:Nat)):Int)).toNat=(if Ae3 y then 9223372036854775808 else 0)+Ab2 x:=by
    rw [BitVec.toNat_or,Bb7,Bb7]
    rw [Nat.mod_eq_of_lt (by omega),Nat.mod_eq_of_lt (by split<;>omega)]
    cases Ae3 y
    · simp
    · simp only [if_true]
      have:=Nat.two_pow_add_eq_or_of_lt (i:=63) (b:=Ab2 x) (by omega) 1
      rw [Nat.or_comm]
      simpa using this.symm
  rw [h6,h5 _ (by split<;>omega)]
  omega
def Cc8 (i:Nat):Nat:=FloatKind.f64.nearest (8000024+(i:Int))
def Bf3:List Nat:=(List.range 12).map Cc8
theorem Fs4:∀ i,i<12→feq (Cc8 i) (Cc8 i)=true:=by decide +kernel
theorem Ex1 (a:Option Addr) (c size:Nat):An7 a 0 c size=a:=by
  unfold An7
  split
  · rfl
  · cases a with
    | none=>rfl
    | some x=>simp [add_zero']
theorem rdA.reals {w:World} {a:Option Addr} {n c:Nat} {l:List Nat} (h:rdA (l.map (Value.float .f64)) a n c w):Reals w a n c l:=by
  have hn:l.length=n:=by rw [h.len,List.length_map]
  refine ⟨hn,h.cap,fun i hi=>?_⟩
  obtain ⟨x,hx,hc⟩:=h.at_ i (by omega)
  refine ⟨x,hx,?_⟩
  rw [hc];simp [hi]
theorem Ent.lent {α:Type} {enc:α→Value} {L:List It} {ws ms:List α} {a:Option Addr} {n c m:Nat} (h:Ent L (rdA ((ws++ms).map enc) a m c)) (hm:ms.length=12) (hn:m=n+12):Ent L (rdA (ws.map enc) a n c):=
  h.imp fun w hr=>by
    have h1:=hr.len
    have h2:=hr.cap
    rw [List.length_map,List.length_append,hm] at h1
    refine ⟨by rw [List.length_map];omega,by omega,fun i hi=>?_⟩
    obtain ⟨x,hx,hc⟩:=hr.at_ i (by omega)
    refine ⟨x,hx,?_⟩
    rw [hc,List.map_append,List.getElem?_append_left (by rw [List.length_map];omega)]
theorem Ho.gain {w0 w w':World} {L:List It} {M:List (Nat×Array Value×Nat)} {r t m:Nat} {l:List Nat} (hS:Ho w0 w L) (h:St w w' M) (hm:(r,Fq6 l,t)∈M) (hl:m=l.length):Ho w0 w' (sl (some ⟨r,0,Option.none⟩) m m (l.map (Value.float .f64)) t::L):=by
  subst hl
  have h1:=h.own _ hm
  refine hS.more h.below ⟨by simp,.inr ⟨r,[],rfl,?_,by simp⟩⟩ (fun b hb=>?_) fun b hb=>?_
  · rw [h1.2,List.append_nil];rfl
  · obtain ⟨x,hx,rfl⟩:=hb
    cases hx
    exact h.lt hm
  · obtain ⟨x,hx,rfl⟩:=hb
    cases hx
    exact h1.1
theorem Gv8 (x:Nat):nf (Ab2 (nf x))=nf (Ab2 x):=by
  cases h:isNaN x with
  | false=>rw [Ac3 h]
  | true=>
    have h1:isNaN (Ab2 x)=true:=by
      have e:Ab2 (Ab2 x)=Ab2 x:=by unfold Ab2;omega
      rw [Ad0] at h ⊢
      rw [e];exact h
    rw [Aj2 h,Aj2 h1]
    decide +kernel
theorem Gw8 (s:Bool) (x:Nat):nf ((if s then 9223372036854775808 else 0)+Ab2 (nf x))=nf ((if s then 9223372036854775808 else 0)+Ab2 x):=by
  cases h:isNaN x with
  | false=>rw [Ac3 h]
  | true=>
    have hm:∀ y,Ab2 ((if s then 9223372036854775808 else 0)+Ab2 y)=Ab2 y:=by
      intro y
      have:=Bs0 y
      unfold Ab2 at *
      split<;>omega
    have h1:isNaN ((if s then 9223372036854775808 else 0)+Ab2 x)=true:=by
      rw [Ad0] at h ⊢
      rw [hm];exact h
    have h2:isNaN ((if s then 9223372036854775808 else 0)+Ab2 (nf x))=true:=by
      rw [Ad0,hm,← Ad0,Ay3];exact h
    rw [Aj2 h1,Aj2 h2]
end Go.Eng
/-
  Plain lemmas on the twins' words: rounds with a number that goes up, reads and writes at whole numbers, lists Bq1 from the front. No condition.
-/
namespace Go.Eng
open Go
theorem Ab9 {τ ω:Type} {b:τ→Option (τ⊕ω)} (S:Nat→τ) {o:ω} (n:Nat) (hn:n<FU) (hstep:∀ i,i<n→b (S i)=some (.inl (S (i+1)))) (hstop:b (S n)=some (.inr o)):Ag0 b FU (S 0)=some o:=by
  have key:∀ k i m,i+k=n→k<m→Ag0 b m (S i)=some o:=by
    intro k
    induction k with
    | zero=>
      intro i m hi hm
      obtain ⟨m,rfl⟩:∃ q,m=q+1:=⟨m-1,by omega⟩
      have:i=n:=by omega
      subst this
      rw [Aq9,hstop]
    | succ k ih=>
      intro i m hi hm
      obtain ⟨m,rfl⟩:∃ q,m=q+1:=⟨m-1,by omega⟩
      rw [Aq9,hstep i (by omega)]
      exact ih (i+1) m (by omega) (by omega)
  exact key n 0 FU (by omega) hn
theorem Ae6:FU=18446744073709551616:=rfl
theorem wrU {n:Nat} (h:n+1<9223372036854775808):IntKind.i64.wrap ((n:Int)+1)=((n+1:Nat):Int):=by
  rw [← wrN (n:=n+1) (by omega)];rfl
theorem Fx7 {a b:Nat} (h:a*b<9223372036854775808):IntKind.i64.wrap ((a:Int)*(b:Int))=((a*b:Nat):Int):=by
  rw [← wrN h];simp
theorem Dd8 {a b:Nat} (h:a+b<9223372036854775808):IntKind.i64.wrap ((a:Int)+(b:Int))=((a+b:Nat):Int):=by
  rw [← wrN h];simp
theorem Hr9 {i j rows cols:Nat} (hi:i<rows) (hj:j<cols):i*cols+j<rows*cols:=by
  have:(i+1)*cols≤rows*cols:=Nat.mul_le_mul_right _ hi
  rw [Nat.succ_mul] at this
  omega
theorem Hq7 {i j rows cols:Nat} (hi:i<rows) (hj:j<cols) (hb:rows*cols<9223372036854775808):IntKind.i64.wrap (IntKind.i64.wrap ((i:Int)*(cols:Int))+(j:Int))=((i*cols+j:Nat):Int):=by
  have:=Hr9 hi hj
  rw [Fx7 (by omega),Dd8 (by omega)]
section
variable {α:Type}
theorem Gq1 {l:List α} {i:Nat} (h:i<l.length):atI l (i:Int)=some l[i]:=by
  unfold atI
  rw [if_pos (by omega),Int.toNat_natCast,List.getElem?_eq_getElem h]
theorem Ab8 {l:List α} {i:Nat} (d:α) (h:i<l.length):atI l (i:Int)=some (l.getD i d):=by
  rw [Gq1 h,List.getD_eq_getElem?_getD,List.getElem?_eq_getElem h];rfl
theorem Cd4 {l:List α} {i j:Nat} (h1:i≤j) (h2:j≤l.length):Cy1 l (i:Int) (j:Int)=some ((l.drop i).take (j-i)):=by
  unfold Cy1
  rw [if_pos ⟨by omega,by omega,by simpa using h2⟩,Int.toNat_natCast,Int.toNat_natCast]
theorem Bm3 {d:α} {n:Nat} (h:n≤1099511627776):mkL d (n:Int) (n:Int)=some (List.replicate n d):=by
  unfold mkL
  rw [if_pos ⟨by omega,by omega,by omega⟩,Int.toNat_natCast]
theorem Bg5 {l m:List α} (h:l.length+m.length≤4294967296):Eg7 l m=some (l++m):=by
  unfold Eg7
  rw [if_pos h]
def Bq1 (n:Nat) (z:α) (G:Nat→α) (k:Nat):List α:=(List.range k).map G++List.replicate (n-k) z
theorem Fo4 {n k:Nat} {z:α} {G:Nat→α} (h:k≤n):(Bq1 n z G k).length=n:=by
  unfold Bq1;simp;omega
theorem Ey1 {n:Nat} {z:α} {G:Nat→α}:Bq1 n z G 0=List.replicate n z:=by simp [Bq1]
theorem Ey4 {n:Nat} {z:α} {G:Nat→α}:Bq1 n z G n=(List.range n).map G:=by simp [Bq1]
theorem Fr4 {n k:Nat} {z:α} {G:Nat→α} (h:k<n):(Bq1 n z G k).set k (G k)=Bq1 n z G (k+1):=by
  unfold Bq1
  rw [List.set_append_right _ _ (by simp)]
  simp only [List.length_map,List.length_range,Nat.sub_self]
  rw [List.range_succ,List.map_append,List.append_assoc]
  congr 1
  obtain ⟨m,hm⟩:∃ m,n-k=m+1:=⟨n-k-1,by omega⟩
  have hm':n-(k+1)=m:=by omega
  rw [hm,hm']
  simp [List.replicate_succ]
theorem Ap6 {k:Nat} {G:Nat→α}:(List.range k).map G ++ [G k]=(List.range (k+1)).map G:=by
  rw [List.range_succ,List.map_append];rfl
theorem Cy3 {l m:List α} (d:α) (hl:l.length=m.length) (h:∀ i,i<l.length→l.getD i d=m.getD i d):l=m:=by
  apply List.ext_getElem hl
  intro i h1 h2
  have:=h i h1
  simpa [List.getD_eq_getElem?_getD,h1,h2] using this
theorem Ez1 {z:α} (n:Nat):(List.range n).map (fun _=>z)=List.replicate n z:=by
  apply List.eq_replicate_iff.2
  refine ⟨by simp,fun b hb=>?_⟩
  obtain ⟨k,_,rfl⟩:=List.mem_map.1 hb
  rfl
theorem Dw9 [DecidableEq α] (d:α):∀ {l m:List α},l.length=m.length→l≠m→∃ i,i<l.length∧l.getD i d≠m.getD i d∧∀ j,j<i→l.getD j d=m.getD j d
  | [],[],_,h=>absurd rfl h
  | [],_::_,hl,_=>by simp at hl
  | _::_,[],hl,_=>by simp at hl
  | x::l,y::m,hl,h=>by
    by_cases hxy:x=y
    · subst hxy
      have hne:l≠m:=fun e=>h (by rw [e])
      obtain ⟨i,h1,h2,h3⟩:=Dw9 d (l:=l) (m:=m) (by simpa using hl) hne
      refine ⟨i+1,by simpa using h1,by simpa using h2,fun j hj=>?_⟩
      cases j with
      | zero=>rfl
      | succ j=>simpa using h3 j (by omega)
    · exact ⟨0,by simp,by simpa using hxy,fun j hj=>by omega⟩
theorem Az2 (p:Nat→Bool):∀ n,(∀ i,i<n→p i=false)∨∃ i,i<n∧p i=true∧∀ j,j<i→p j=false
  | 0 => .inl fun i h=>by omega
  | n+1=>by
    rcases Az2 p n with h | ⟨i,h1,h2,h3⟩
    · cases hp:p n with
      | false=>
        refine .inl fun i hi=>?_
        by_cases e:i=n
        · subst e;exact hp
        · exact h i (by omega)
      | true=>exact .inr ⟨n,by omega,hp,h⟩
    · exact .inr ⟨i,by omega,h2,h3⟩
end
theorem cT {α:Type} {a b:α}:cond true a b=a:=rfl
theorem cF {α:Type} {a b:α}:cond false a b=b:=rfl
theorem Aa6 {α:Type} {c:Bool} {x y:α} (h:c=true):cond c x y=x:=by subst h;rfl
theorem Aa8 {α:Type} {c:Bool} {x y:α} (h:c=false):cond c x y=y:=by subst h;rfl
theorem Ba0 {α:Type} {c:Bool} {x y z:α} (h1:c=true→x=z) (h2:c=false→y=z):cond c x y=z:=by
  cases c
  · exact h2 rfl
  · exact h1 rfl
end Go.Eng
/-
  Sums of products of floats, in order. No condition.
-/
namespace Go.Eng
open Go
theorem El0 (a b:Ieee.Datum):a.product b=b.product a:=by
  cases a<;>cases b<;>simp [Ieee.Datum.product,Bool.xor_comm,Nat.mul_comm,Int.add_comm]
theorem Fy5 (x y:Nat):Cq0 x y=Cq0 y x:=by
  unfold Cq0 Ieee.Format.mul
  rw [El0]
end Go.Eng
/-
  Sums rounded to a side: plain definitions and laws. No condition.
-/
set_option maxRecDepth 100000
set_option maxHeartbeats 4000000
namespace Go.Eng
open Go
def Bx4 (x:Nat) (up:Bool):Nat:=if Ab2 x=0 then (if up then 1 else 9223372036854775809) else if up==(!Ae3 x) then (x+1)%18446744073709551616 else (x+18446744073709551615)%18446744073709551616
def Be5 (s:Nat) (m:Int):Int:=if m=3 then (if Ae3 s then 2 else 1) else m
def At6 (s:Nat) (off:Int) (m:Int):Nat:=
  if Ab2 s=9218868437227405312 then (if (Ae3 s=false∧Be5 s m=1)∨(Ae3 s=true∧Be5 s m=2) then (if Ae3 s then 9223372036854775808 else 0)+9218868437227405311 else s)
  else if (off<0∧Be5 s m=1)∨(0<off∧Be5 s m=2) then Bx4 s (decide (0<off)) else s
theorem Hm1 (n:Nat):(IntKind.u64.wrap (n:Int)).toNat=n%18446744073709551616:=by
  simp only [IntKind.wrap,IntKind.bits,IntKind.signed];simp;omega
def Gt8 (x:Nat):Int:=if fgt x 0 then 1 else if flt x 0 then -1 else 0
theorem Fr3 (x:Nat):flt x 0=true→fgt x 0=false:=by
  rw [Eg4,Ch9]
  cases Ae3 x<;>simp
theorem Da1 {x:Nat} (h:Ae3 x=false) (hl:x<18446744073709551616):x=Ab2 x:=by
  have:=Cn4 hl
  rw [h] at this
  simpa using this
theorem neg_bound' {x:Nat} (h:Ae3 x=true) (hl:x<18446744073709551616):x=9223372036854775808+Ab2 x:=by
  have:=Cn4 hl
  rw [h] at this
  simpa using this
theorem Fx6 {x:Nat} (hm:Ab2 x<9218868437227405312) (hz:Ab2 x≠0) (hl:x<18446744073709551616):Bn0 (Bx4 (Bn0 x) true)=Bx4 x false:=by
  have e1:=Av2 x
  have e2:=Dz6 x
  unfold Bx4
  rw [e1,if_neg hz,if_neg hz,e2]
  cases hn:Ae3 x
  · have hx:=Da1 hn hl
    have hf:=Dy5 hl
    rw [hn] at hf
    simp only [Bool.not_false,Bool.not_true]
    rw [if_neg (by decide),if_neg (by decide)]
    have e3:(Bn0 x+18446744073709551615)%18446744073709551616=9223372036854775808+(Ab2 x-1):=by
      rw [hf];simp;omega
    rw [e3]
    have e4:Ab2 (9223372036854775808+(Ab2 x-1))=Ab2 x-1:=by unfold Ab2;omega
    have e5:Ae3 (9223372036854775808+(Ab2 x-1))=true:=by
      unfold Ae3
      have:Ab2 x<9223372036854775808:=Bs0 x
      have:(9223372036854775808+(Ab2 x-1))/9223372036854775808=1:=by omega
      rw [this];rfl
    rw [Dy5 (by have:=Bs0 x;omega),e4,e5]
    simp;omega
  · have hx:=neg_bound' hn hl
    have hf:=Dy5 hl
    rw [hn] at hf
    simp only [Bool.not_false,Bool.not_true]
    rw [if_pos (by decide),if_pos (by decide)]
    have e3:(Bn0 x+1)%18446744073709551616=Ab2 x+1:=by rw [hf];simp;omega
    rw [e3]
    have e4:Ab2 (Ab2 x+1)=Ab2 x+1:=Nat.mod_eq_of_lt (by omega)
    have e5:Ae3 (Ab2 x+1)=false:=by
      unfold Ae3
      rw [Nat.div_eq_of_lt (by omega)];rfl
    rw [Dy5 (by omega),e4,e5]
    simp;omega
def Bm8 (x:Nat):Bool:=decide (Ab2 x<9218868437227405312)
def Ev9 (a b:Nat) (m:Int):Nat:=
  if Bm8 a=true∧Bm8 b=true then
    if Ab2 (As2 a b)=0 then (if Ab2 a=0∧Ae3 a=Ae3 b then As2 a b else if m=1 then 9223372036854775808 else 0)
    else if Ab2 (As2 a b)=9218868437227405312 then At6 (As2 a b) 0 m
    else At6 (As2 a b) (Gt8 (Bn1 (if flt (Ab2 a) (Ab2 b) then a else b) (Bn1 (As2 a b) (if flt (Ab2 a) (Ab2 b) then b else a)))) m
  else As2 a b
def Ao9 (s:Nat):Prop:=s≤9218868437227405312
theorem Bb1 {s:Nat} (h:Ao9 s):Ab2 s=s:=Nat.mod_eq_of_lt (by unfold Ao9 at h;omega)
theorem Bh8 {s:Nat} (h:Ao9 s):Ae3 s=false:=by
  unfold Ae3
  rw [Nat.div_eq_of_lt (by unfold Ao9 at h;omega)];rfl
theorem Gn6 {s:Nat} (h:Ao9 s):isNaN s=false:=by rw [Ad0,Bb1 h];unfold Ao9 at h;simp;omega
theorem Db9 {s:Nat} (h:Ao9 s):Am3 s=(Bq8 s:Int):=by unfold Am3;rw [Bh8 h,Bb1 h];rfl
theorem Ep8 {r:Nat}:Ieee.double.word false r=r:=by unfold Ieee.Format.word;rfl
theorem Bw4 {x y:Nat} (hx:Ao9 x) (hy:Ao9 y):Ieee.double.order x y=some (compare x y):=by
  have mx:=Bb1 hx
  have my:=Bb1 hy
  have cmp:∀ a b:Nat,compare (Bq8 a:Int) (Bq8 b:Int)=compare a b:=fun a b=>by
    rcases Nat.lt_trichotomy a b with h | h | h
    · rw [Int.compare_eq_lt.2 (by have:=Bs9 h;omega),Nat.compare_eq_lt.2 h]
    · subst h;rw [Int.compare_eq_eq.2 rfl,Nat.compare_eq_eq.2 rfl]
    · rw [Int.compare_eq_gt.2 (by have:=Bs9 h;omega),Nat.compare_eq_gt.2 h]
  unfold Ao9 at hx hy
  rcases Nat.lt_or_ge x 9218868437227405312 with h1 | h1
  · rcases Nat.lt_or_ge y 9218868437227405312 with h2 | h2
    · rw [El7 (by omega) (by omega),Db9 hx,Db9 hy,cmp]
    · have e:y=9218868437227405312:=by omega
      unfold Ieee.Format.order
      obtain ⟨m,a,hr,_⟩:=Bb3 (x:=x) (by omega)
      rw [hr,Bi8 (x:=y) (by omega),Bh8 hy,Nat.compare_eq_lt.2 (by omega)]
      rfl
  · have e:x=9218868437227405312:=by omega
    rcases Nat.lt_or_ge y 9218868437227405312 with h2 | h2
    · unfold Ieee.Format.order
      obtain ⟨m,a,hr,_⟩:=Bb3 (x:=y) (by omega)
      rw [hr,Bi8 (x:=x) (by omega),Bh8 hx,Nat.compare_eq_gt.2 (by omega)]
      rfl
    · have e2:y=x:=by omega
      subst e2
      unfold Ieee.Format.order
      rw [Bi8 (x:=y) (by omega),Nat.compare_eq_eq.2 rfl]
      show some (compare (Ae3 y).toNat (Ae3 y).toNat)=_
      rw [Nat.compare_eq_eq.2 rfl]
theorem Gm1 {s b:Nat} (hs:Ab2 s=9218868437227405312) (hb:Ab2 b<9218868437227405312):As2 s b=Ieee.double.word (Ae3 s) 9218868437227405312:=by
  unfold As2 Ieee.Format.add
  obtain ⟨m,a,hr,_⟩:=Bb3 hb
  rw [hr,Bi8 hs]
  show (some (Ieee.double.write (.infinity (Ae3 s)))).getD Cx5=_
  show Ieee.double.word (Ae3 s) Ieee.double.infRung=_
  rw [ir]
theorem Ge0 {s b:Nat} (hs:Ao9 s) (hs':s<9218868437227405312) (hb:Ab2 b<9218868437227405312) (hn:0≤Am3 b):∃ r,As2 s b=r∧Ao9 r:=by
  obtain ⟨r,h1,h2,h3⟩:=Dk4 (x:=s) (y:=b) (by rw [Bb1 hs];exact hs') hb
  have e:(if Am3 s+Am3 b=0 then Ae3 s&&Ae3 b else decide (Am3 s+Am3 b<0))=false:=by
    split
    · rw [Bh8 hs];rfl
    · have:0≤Am3 s:=by rw [Db9 hs];omega
      simp;omega
  rw [e,Ep8] at h1
  exact ⟨r,h1,h2⟩
theorem Di2 {s:Nat} (h:Ao9 s) (h0:s≠0) (off:Int):Ao9 (At6 s off 2):=by
  have e:=Bb1 h
  unfold At6
  by_cases hi:Ab2 s=9218868437227405312
  · rw [if_pos hi,if_neg (by simp [Bh8 h,Be5])];exact h
  · rw [if_neg hi]
    split
    · have hp:0<off:=by
        rename_i hc
        rcases hc with ⟨_,hc⟩ | ⟨hc,_⟩
        · simp [Be5] at hc
        · exact hc
      have hd:decide (0<off)=true:=by simpa using hp
      rw [hd]
      unfold Bx4
      rw [if_neg (by omega),Bh8 h,if_pos (by decide)]
      unfold Ao9 at *
      omega
    · exact h
theorem Fw9 {s b:Nat} (hs:Ao9 s) (hb:Ab2 b<9218868437227405312) (hn:0≤Am3 b):Ao9 (Ev9 s b 2):=by
  unfold Ev9
  have e:=Bb1 hs
  rcases Nat.lt_or_ge s 9218868437227405312 with h | h
  · have f1:Bm8 s=true:=by simp [Bm8,e,h]
    have f2:Bm8 b=true:=by simp [Bm8,hb]
    rw [if_pos ⟨f1,f2⟩]
    obtain ⟨r,hr,hg⟩:=Ge0 hs h hb hn
    rw [hr,Bb1 hg]
    split
    · split
      · exact hg
      · rw [if_neg (by decide)];unfold Ao9;omega
    · split
      · exact Di2 hg (by assumption) _
      · exact Di2 hg (by assumption) _
  · have hi:s=9218868437227405312:=by unfold Ao9 at hs;omega
    have f1:Bm8 s=false:=by simp [Bm8,e];omega
    rw [if_neg (by rw [f1];simp),Gm1 (by omega) hb,Bh8 hs,Ep8]
    unfold Ao9;omega
theorem Gk5 (p:Nat):0≤Am3 (Ab2 p):=by unfold Am3;rw [Dj0];simp
end Go.Eng
/-
  Rounding to the nearest: it hangs on the value alone; what a word reads as is written back to that word; once a number is that number. No condition.
-/
set_option maxRecDepth 100000
namespace Go.Eng
theorem Bm0 {m:Nat} (hm:m≠0) (k:Nat):(m*2^k).log2=m.log2+k:=by
  induction k with
  | zero=>simp
  | succ k ih=>
    have e:m*2^(k+1)=2*(m*2^k):=by rw [Nat.pow_succ];ac_rfl
    have hp:0<m*2^k:=Nat.mul_pos (by omega) (Nat.two_pow_pos k)
    rw [e,Nat.log2_two_mul (by omega),ih];rfl
theorem Ev8 {s:Bool} {n d:Nat} (hn:n≠0):Ieee.Toward.even.cut s (n*2^d) d=n:=by
  unfold Ieee.Toward.cut
  have e:min d ((n*2^d).log2+2)=d:=by rw [Bm0 hn];omega
  have hp:0<2^d:=Nat.two_pow_pos d
  simp only [e,Nat.shiftLeft_eq,Nat.one_mul,Nat.mul_div_cancel _ hp,Nat.mul_mod_left]
  have h1:decide (2^d<2*0)=false:=by simp
  have h2:(2^d==2*0)=false:=by
    have:2^d≠0:=by omega
    simpa using this
  rw [h1,h2];simp
theorem Fx2 {s:Bool} {n d k:Nat} (hn:n≠0):Ieee.Toward.even.cut s (n*2^k) (d+k)=Ieee.Toward.even.cut s n d:=by
  unfold Ieee.Toward.cut
  have e:min (d+k) ((n*2^k).log2+2)=min d (n.log2+2)+k:=by rw [Bm0 hn];omega
  have hp:0<2^k:=Nat.two_pow_pos k
  simp only [e,Nat.shiftLeft_eq,Nat.one_mul,Nat.pow_add]
  generalize 2^min d (n.log2+2)=g
  generalize 2^k=q at *
  rw [Nat.mul_div_mul_right _ _ hp,Nat.mul_mod_mul_right]
  have h1:decide (g*q<2*(n%g*q))=decide (g<2*(n%g)):=by
    rw [← Nat.mul_assoc,decide_eq_decide]
    exact Nat.mul_lt_mul_right hp
  have h2:(g*q==2*(n%g*q))=(g==2*(n%g)):=by
    rw [← Nat.mul_assoc,Bool.eq_iff_iff]
    simp only [beq_iff_eq]
    exact ⟨fun h=>Nat.eq_of_mul_eq_mul_right hp h,fun h=>congrArg (· * q) h⟩
  rw [h1,h2]
theorem Ax2 (s:Bool) {m:Nat} (hm:m≠0) (p:Int) (k:Nat):Ieee.double.nearest s (m*2^k) p=Ieee.double.nearest s m (p+k):=by
  have hmk:m*2^k≠0:=Nat.mul_ne_zero hm (by have:=Nat.two_pow_pos k;omega)
  unfold Ieee.Format.nearest
  rw [if_neg hmk,if_neg hm,Bm0 hm]
  have e:p+((m.log2+k:Nat):Int)-(Ieee.double.fractionBits:Int)=p+(k:Int)+(m.log2:Int)-(Ieee.double.fractionBits:Int):=by omega
  simp only [e]
  generalize max (p+(k:Int)+(m.log2:Int)-(Ieee.double.fractionBits:Int)) Ieee.double.leastPlace=L
  have key:Ieee.Toward.even.cut s ((m*2^k) <<< (p-L).toNat) (L-p).toNat=Ieee.Toward.even.cut s (m <<< (p+k-L).toNat) (L-(p+k)).toNat:=by
    rw [Nat.shiftLeft_eq,Nat.shiftLeft_eq]
    rcases Int.le_total L p with h | h
    · have e1:(L-p).toNat=0:=by omega
      have e2:(L-(p+k)).toNat=0:=by omega
      have e3:(p+k-L).toNat=k+(p-L).toNat:=by omega
      rw [e1,e2,e3,Nat.pow_add,Nat.mul_assoc]
    · have e1:(p-L).toNat=0:=by omega
      rw [e1,Nat.pow_zero,Nat.mul_one]
      rcases Int.le_total L (p+k) with h2 | h2
      · have e2:(L-(p+k)).toNat=0:=by omega
        obtain ⟨d,hd⟩:∃ d:Nat,L-p=d:=Int.eq_ofNat_of_zero_le (by omega)
        have e3:(L-p).toNat=d:=by omega
        have e4:(p+k-L).toNat=k-d:=by omega
        have e5:m*2^k=(m*2^(k-d))*2^d:=by rw [Nat.mul_assoc,← Nat.pow_add];congr 2;omega
        have hz:m*2^(k-d)≠0:=Nat.mul_ne_zero hm (by have:=Nat.two_pow_pos (k-d);omega)
        rw [e2,e3,e4,e5,Ev8 hz]
        have:=Ev8 (s:=s) (d:=0) hz
        rw [Nat.pow_zero,Nat.mul_one] at this
        rw [this]
      · have e2:(p+k-L).toNat=0:=by omega
        have e3:(L-p).toNat=(L-(p+k)).toNat+k:=by omega
        rw [e2,e3,Nat.pow_zero,Nat.mul_one,Fx2 hm]
  rw [key]
theorem Fh9 {s:Bool} {n:Nat}:Ieee.Toward.even.cut s n 0=n:=Dy7 _ s n
end Go.Eng
/-
  Floats that are opposite to each other (or both zeros, or both NaN), kept by differences, products and quotients. No condition.
-/
set_option maxRecDepth 100000
set_option maxHeartbeats 4000000
namespace Go.Eng
def Opp (x y:Nat):Prop:=(isNaN x=true∧isNaN y=true)∨(isNaN x=false∧Ab2 x=Ab2 y∧(Ab2 x=0∨Ae3 y = !Ae3 x))
theorem Gn9 {s:Bool} {r:Nat} (h:r≤9218868437227405312):Ab2 (Ieee.double.word s r)=r:=by
  unfold Ab2 Ieee.Format.word
  rw [sw]
  cases s<;>simp<;>omega
end Go.Eng
