/-
  Plain facts for the contracts written by hand: fields of floats, marks. No condition.
-/
import Derived.Test.YtlnelldekejadaaGreatTw4
import Derived.Test.YtlnelldekejadaaGreatFlz3
set_option linter.all false
set_option maxRecDepth 100000
set_option maxHeartbeats 4000000
open Int renaming toNat_natCast→AA
open List renaming length_map→AB,getD_eq_getElem?_getD→AC,getElem?_eq_getElem→AD,map_append→AE,range_succ→AF
namespace Go.Eng
open Go
theorem Cu9 (a:Option Addr) (c size:Nat):Ak1 a 0 c size=a:=by
 unfold Ak1
 split
 · rfl
 · cases a with
   | none=>rfl
   | some x=>simp [add_zero']
theorem Ent.lent {α:Type} {enc:α→Value} {L:List It} {ws ms:List α} {a:Option Addr} {n c m:Nat} (h:Ent L (rdA ((ws++ms).map enc) a m c)) (hm:ms.length=12) (hn:m=n+12):Ent L (rdA (ws.map enc) a n c):=
 h.imp fun w hr=>by
  have b:=hr.len
  have d:=hr.cap
  rw [AB,List.length_append,hm] at b
  refine ⟨by rw [AB];omega,by omega,fun i hi=>?_⟩
  obtain ⟨x,hx,hc⟩:=hr.at_ i (by omega)
  refine ⟨x,hx,?_⟩
  rw [hc,AE,List.getElem?_append_left (by rw [AB];omega)]
end Go.Eng
/-
  Plain lemmas on the twins' words: rounds with a number that goes up, reads and writes at whole numbers, lists Bs7 from the front. No condition.
-/
namespace Go.Eng
open Go
theorem Ac7 {τ ω:Type} {b:τ→Option (τ⊕ω)} (S:Nat→τ) {o:ω} (n:Nat) (hn:n<FU) (hstep:∀ i,i<n→b (S i)=some (.inl (S (i+1)))) (hstop:b (S n)=some (.inr o)):Af5 b FU (S 0)=some o:=by
 have key:∀ k i m,i+k=n→k<m→Af5 b m (S i)=some o:=by
  intro k
  induction k with
  | zero=>
    intro i m hi hm
    obtain ⟨m,rfl⟩:∃ q,m=q+1:=⟨m-1,by omega⟩
    have:i=n:=by omega
    subst this
    rw [Av3,hstop]
  | succ k ih=>
    intro i m hi hm
    obtain ⟨m,rfl⟩:∃ q,m=q+1:=⟨m-1,by omega⟩
    rw [Av3,hstep i (by omega)]
    exact ih (i+1) m (by omega) (by omega)
 exact key n 0 FU (by omega) hn
theorem Af4:FU=18446744073709551616:=rfl
theorem wrU {n:Nat} (h:n+1<9223372036854775808):IntKind.i64.wrap ((n:Int)+1)=((n+1:Nat):Int):=by
 rw [← wrN (n:=n+1) (by omega)];rfl
theorem Fi3 {a b:Nat} (h:a*b<9223372036854775808):IntKind.i64.wrap ((a:Int)*(b:Int))=((a*b:Nat):Int):=by
 rw [← wrN h];simp
theorem Bs0 {a b:Nat} (h:a+b<9223372036854775808):IntKind.i64.wrap ((a:Int)+(b:Int))=((a+b:Nat):Int):=by
 rw [← wrN h];simp
theorem Gn6 {i j rows cols:Nat} (hi:i<rows) (hj:j<cols):i*cols+j<rows*cols:=by
 have:(i+1)*cols≤rows*cols:=Nat.mul_le_mul_right _ hi
 rw [Nat.succ_mul] at this
 omega
theorem Fa7 {i j rows cols:Nat} (hi:i<rows) (hj:j<cols) (hb:rows*cols<9223372036854775808):IntKind.i64.wrap (IntKind.i64.wrap ((i:Int)*(cols:Int))+(j:Int))=((i*cols+j:Nat):Int):=by
 have:=Gn6 hi hj
 rw [Fi3 (by omega),Bs0 (by omega)]
section
variable {α:Type}
theorem Eq7 {l:List α} {i:Nat} (h:i<l.length):atI l (i:Int)=some l[i]:=by
 unfold atI
 rw [if_pos (by omega),AA,AD h]
theorem Ac1 {l:List α} {i:Nat} (d:α) (h:i<l.length):atI l (i:Int)=some (l.getD i d):=by
 rw [Eq7 h,AC,AD h];rfl
theorem Cf6 {l:List α} {i j:Nat} (b:i≤j) (a:j≤l.length):Cd8 l (i:Int) (j:Int)=some ((l.drop i).take (j-i)):=by
 unfold Cd8
 rw [if_pos ⟨by omega,by omega,by simpa using a⟩,AA,AA]
theorem Bb0 {d:α} {n:Nat} (h:n≤1099511627776):mkL d (n:Int) (n:Int)=some (List.replicate n d):=by
 unfold mkL
 rw [if_pos ⟨by omega,by omega,by omega⟩,AA]
theorem Bb3 {l m:List α} (h:l.length+m.length≤4294967296):Dp2 l m=some (l++m):=by
 unfold Dp2
 rw [if_pos h]
def Bs7 (n:Nat) (z:α) (G:Nat→α) (k:Nat):List α:=(List.range k).map G++List.replicate (n-k) z
theorem Ct4 {n:Nat} {z:α} {G:Nat→α}:Bs7 n z G 0=List.replicate n z:=by simp [Bs7]
theorem Co6 {n:Nat} {z:α} {G:Nat→α}:Bs7 n z G n=(List.range n).map G:=by simp [Bs7]
theorem Dg9 {n k:Nat} {z:α} {G:Nat→α} (h:k<n):(Bs7 n z G k).set k (G k)=Bs7 n z G (k+1):=by
 unfold Bs7
 rw [List.set_append_right _ _ (by simp)]
 simp only [AB,List.length_range,Nat.sub_self]
 rw [AF,AE,List.append_assoc]
 congr 1
 obtain ⟨m,hm⟩:∃ m,n-k=m+1:=⟨n-k-1,by omega⟩
 have hm':n-(k+1)=m:=by omega
 rw [hm,hm']
 simp [List.replicate_succ]
theorem Ay4 {k:Nat} {G:Nat→α}:(List.range k).map G ++ [G k]=(List.range (k+1)).map G:=by
 rw [AF,AE];rfl
theorem Cm6 {l m:List α} (d:α) (hl:l.length=m.length) (h:∀ i,i<l.length→l.getD i d=m.getD i d):l=m:=by
 apply List.ext_getElem hl
 intro i a b
 have:=h i a
 simpa [AC,a,b] using this
theorem Eh0 {z:α} (n:Nat):(List.range n).map (fun _=>z)=List.replicate n z:=by
 apply List.eq_replicate_iff.2
 refine ⟨by simp,fun b hb=>?_⟩
 obtain ⟨k,_,rfl⟩:=List.mem_map.1 hb
 rfl
theorem De1 [DecidableEq α] (d:α):∀ {l m:List α},l.length=m.length→l≠m→∃ i,i<l.length∧l.getD i d≠m.getD i d∧∀ j,j<i→l.getD j d=m.getD j d
 | [],[],_,h=>absurd rfl h
 | [],_::_,hl,_=>by simp at hl
 | _::_,[],hl,_=>by simp at hl
 | x::l,y::m,hl,h=>by
   by_cases hxy:x=y
   · subst hxy
     have hne:l≠m:=fun e=>h (by rw [e])
     obtain ⟨i,a,b,c⟩:=De1 d (l:=l) (m:=m) (by simpa using hl) hne
     refine ⟨i+1,by simpa using a,by simpa using b,fun j hj=>?_⟩
     cases j with
     | zero=>rfl
     | succ j=>simpa using c j (by omega)
   · exact ⟨0,by simp,by simpa using hxy,fun j hj=>by omega⟩
theorem Ar7 (p:Nat→Bool):∀ n,(∀ i,i<n→p i=false)∨∃ i,i<n∧p i=true∧∀ j,j<i→p j=false
 | 0 => .inl fun i h=>by omega
 | n+1=>by
   rcases Ar7 p n with h | ⟨i,c,a,b⟩
   · cases hp:p n with
     | false=>
       refine .inl fun i hi=>?_
       by_cases e:i=n
       · subst e;exact hp
       · exact h i (by omega)
     | true=>exact .inr ⟨n,by omega,hp,h⟩
   · exact .inr ⟨i,by omega,a,b⟩
end
theorem cT {α:Type} {a b:α}:cond true a b=a:=rfl
theorem cF {α:Type} {a b:α}:cond false a b=b:=rfl
theorem Ab0 {α:Type} {c:Bool} {x y:α} (h:c=true):cond c x y=x:=by subst h;rfl
theorem Ab1 {α:Type} {c:Bool} {x y:α} (h:c=false):cond c x y=y:=by subst h;rfl
theorem Ba5 {α:Type} {c:Bool} {x y z:α} (a:c=true→x=z) (b:c=false→y=z):cond c x y=z:=by
 cases c
 · exact b rfl
 · exact a rfl
end Go.Eng
