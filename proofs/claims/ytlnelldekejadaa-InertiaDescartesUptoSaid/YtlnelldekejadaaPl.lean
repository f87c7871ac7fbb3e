/-
  Plain facts for the contracts written by hand: fields of floats, marks. No condition.
-/
import Derived.Test.YtlnelldekejadaaTw4
import Derived.Test.YtlnelldekejadaaFlz3
set_option linter.all false
set_option maxRecDepth 100000
set_option maxHeartbeats 4000000
namespace Go.Eng
open Go
theorem slBase0 (a:Option Addr) (c size:Nat):slBase a 0 c size=a:=by
  unfold slBase
  split
  · rfl
  · cases a with
    | none=>rfl
    | some x=>simp [add_zero']
end Go.Eng
/-
  Plain lemmas on the twins' words: rounds with a number that goes up, reads and writes at whole numbers, lists filled from the front. No condition.
-/
namespace Go.Eng
open Go
theorem iter_nat {τ ω:Type} {b:τ→Option (τ⊕ω)} (S:Nat→τ) {o:ω} (n:Nat) (hn:n<FU) (hstep:∀ i,i<n→b (S i)=some (.inl (S (i+1)))) (hstop:b (S n)=some (.inr o)):iter b FU (S 0)=some o:=by
  have key:∀ k i m,i+k=n→k<m→iter b m (S i)=some o:=by
    intro k
    induction k with
    | zero=>
      intro i m hi hm
      obtain ⟨m,rfl⟩:∃ q,m=q+1:=⟨m-1,by omega⟩
      have:i=n:=by omega
      subst this
      rw [iter_succ,hstop]
    | succ k ih=>
      intro i m hi hm
      obtain ⟨m,rfl⟩:∃ q,m=q+1:=⟨m-1,by omega⟩
      rw [iter_succ,hstep i (by omega)]
      exact ih (i+1) m (by omega) (by omega)
  exact key n 0 FU (by omega) hn
theorem FU_eq:FU=18446744073709551616:=rfl
theorem wrU {n:Nat} (h:n+1<9223372036854775808):IntKind.i64.wrap ((n:Int)+1)=((n+1:Nat):Int):=by
  rw [← wrN (n:=n+1) (by omega)];rfl
theorem wrMul {a b:Nat} (h:a*b<9223372036854775808):IntKind.i64.wrap ((a:Int)*(b:Int))=((a*b:Nat):Int):=by
  rw [← wrN h];simp
theorem wrAdd {a b:Nat} (h:a+b<9223372036854775808):IntKind.i64.wrap ((a:Int)+(b:Int))=((a+b:Nat):Int):=by
  rw [← wrN h];simp
theorem idxL {i j rows cols:Nat} (hi:i<rows) (hj:j<cols):i*cols+j<rows*cols:=by
  have:(i+1)*cols≤rows*cols:=Nat.mul_le_mul_right _ hi
  rw [Nat.succ_mul] at this
  omega
theorem wrIdx {i j rows cols:Nat} (hi:i<rows) (hj:j<cols) (hb:rows*cols<9223372036854775808):IntKind.i64.wrap (IntKind.i64.wrap ((i:Int)*(cols:Int))+(j:Int))=((i*cols+j:Nat):Int):=by
  have:=idxL hi hj
  rw [wrMul (by omega),wrAdd (by omega)]
section
variable {α:Type}
theorem at_nat {l:List α} {i:Nat} (h:i<l.length):atI l (i:Int)=some l[i]:=by
  unfold atI
  rw [if_pos (by omega),Int.toNat_natCast,List.getElem?_eq_getElem h]
theorem at_getD {l:List α} {i:Nat} (d:α) (h:i<l.length):atI l (i:Int)=some (l.getD i d):=by
  rw [at_nat h,List.getD_eq_getElem?_getD,List.getElem?_eq_getElem h];rfl
theorem sub_nat {l:List α} {i j:Nat} (h1:i≤j) (h2:j≤l.length):subL l (i:Int) (j:Int)=some ((l.drop i).take (j-i)):=by
  unfold subL
  rw [if_pos ⟨by omega,by omega,by simpa using h2⟩,Int.toNat_natCast,Int.toNat_natCast]
theorem mk_nat {d:α} {n:Nat} (h:n≤1099511627776):mkL d (n:Int) (n:Int)=some (List.replicate n d):=by
  unfold mkL
  rw [if_pos ⟨by omega,by omega,by omega⟩,Int.toNat_natCast]
theorem app_le {l m:List α} (h:l.length+m.length≤4294967296):appL l m=some (l++m):=by
  unfold appL
  rw [if_pos h]
def filled (n:Nat) (z:α) (G:Nat→α) (k:Nat):List α:=(List.range k).map G++List.replicate (n-k) z
theorem filled_zero {n:Nat} {z:α} {G:Nat→α}:filled n z G 0=List.replicate n z:=by simp [filled]
theorem filled_full {n:Nat} {z:α} {G:Nat→α}:filled n z G n=(List.range n).map G:=by simp [filled]
theorem filled_set {n k:Nat} {z:α} {G:Nat→α} (h:k<n):(filled n z G k).set k (G k)=filled n z G (k+1):=by
  unfold filled
  rw [List.set_append_right _ _ (by simp)]
  simp only [List.length_map,List.length_range,Nat.sub_self]
  rw [List.range_succ,List.map_append,List.append_assoc]
  congr 1
  obtain ⟨m,hm⟩:∃ m,n-k=m+1:=⟨n-k-1,by omega⟩
  have hm':n-(k+1)=m:=by omega
  rw [hm,hm']
  simp [List.replicate_succ]
theorem map_range_snoc {k:Nat} {G:Nat→α}:(List.range k).map G ++ [G k]=(List.range (k+1)).map G:=by
  rw [List.range_succ,List.map_append];rfl
theorem ext_getD {l m:List α} (d:α) (hl:l.length=m.length) (h:∀ i,i<l.length→l.getD i d=m.getD i d):l=m:=by
  apply List.ext_getElem hl
  intro i h1 h2
  have:=h i h1
  simpa [List.getD_eq_getElem?_getD,h1,h2] using this
theorem const_range {z:α} (n:Nat):(List.range n).map (fun _=>z)=List.replicate n z:=by
  apply List.eq_replicate_iff.2
  refine ⟨by simp,fun b hb=>?_⟩
  obtain ⟨k,_,rfl⟩:=List.mem_map.1 hb
  rfl
theorem first_diff [DecidableEq α] (d:α):∀ {l m:List α},l.length=m.length→l≠m→∃ i,i<l.length∧l.getD i d≠m.getD i d∧∀ j,j<i→l.getD j d=m.getD j d
  | [],[],_,h=>absurd rfl h
  | [],_::_,hl,_=>by simp at hl
  | _::_,[],hl,_=>by simp at hl
  | x::l,y::m,hl,h=>by
    by_cases hxy:x=y
    · subst hxy
      have hne:l≠m:=fun e=>h (by rw [e])
      obtain ⟨i,h1,h2,h3⟩:=first_diff d (l:=l) (m:=m) (by simpa using hl) hne
      refine ⟨i+1,by simpa using h1,by simpa using h2,fun j hj=>?_⟩
      cases j with
      | zero=>rfl
      | succ j=>simpa using h3 j (by omega)
    · exact ⟨0,by simp,by simpa using hxy,fun j hj=>by omega⟩
theorem first_mark (p:Nat→Bool):∀ n,(∀ i,i<n→p i=false)∨∃ i,i<n∧p i=true∧∀ j,j<i→p j=false
  | 0 => .inl fun i h=>by omega
  | n+1=>by
    rcases first_mark p n with h | ⟨i,h1,h2,h3⟩
    · cases hp:p n with
      | false=>
        refine .inl fun i hi=>?_
        by_cases e:i=n
        · subst e;exact hp
        · exact h i (by omega)
      | true=>exact .inr ⟨n,by omega,hp,h⟩
    · exact .inr ⟨i,by omega,h2,h3⟩
end
theorem cT {α:Type} {a b:α}:cond true a b=a:=rfl
theorem cF {α:Type} {a b:α}:cond false a b=b:=rfl
theorem cond_t {α:Type} {c:Bool} {x y:α} (h:c=true):cond c x y=x:=by subst h;rfl
theorem cond_f {α:Type} {c:Bool} {x y:α} (h:c=false):cond c x y=y:=by subst h;rfl
theorem eq_cond {α:Type} {c:Bool} {x y z:α} (h1:c=true→x=z) (h2:c=false→y=z):cond c x y=z:=by
  cases c
  · exact h2 rfl
  · exact h1 rfl
end Go.Eng
