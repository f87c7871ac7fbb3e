/-
  Floats of 64 bits as the model has them, up to which NaN it is: 'nf' takes every NaN to one of them; sum, difference, product, quotient as functions on words. No condition.
-/
import Ieee.Arith
import Derived.Laws.FloatBits
set_option linter.all false
namespace Go.Eng
def isNaN (x:Nat):Bool:=(Ieee.double.read x).isNaN
def Gd8:Nat:=9221120237041090561
def nf (x:Nat):Nat:=cond (isNaN x) Gd8 x
def He4 (x y:Nat):Nat:=(Ieee.double.add x y).getD Gd8
def Hf2 (x y:Nat):Nat:=(Ieee.double.sub x y).getD Gd8
def He5 (x y:Nat):Nat:=(Ieee.double.mul x y).getD Gd8
def fdiv (x y:Nat):Nat:=(Ieee.double.div x y).getD Gd8
def feq (x y:Nat):Bool:=Ieee.double.order x y==some .eq
def flt (x y:Nat):Bool:=Ieee.double.order x y==some .lt
def fgt (x y:Nat):Bool:=Ieee.double.order x y==some .gt
def He2 (x:Nat):Nat:=x ^^^ 2^63
theorem sw:Ieee.double.signWeight=9223372036854775808:=by decide +kernel
theorem ir:Ieee.double.infRung=9218868437227405312:=by decide +kernel
theorem bn:Ieee.double.binade=4503599627370496:=by decide +kernel
theorem Bo4 (neg:Bool) (r:Nat) (h:r≤9218868437227405312):(Ieee.double.read (Ieee.double.word neg r)).isNaN=false:=by
 unfold Ieee.Format.read Ieee.Format.word
 rw [sw,ir,bn]
 have a:(if neg=true then 9223372036854775808+r else r)%9223372036854775808=r:=by
  split<;>omega
 simp only [a]
 split
 · rfl
 · split
   · rfl
   · split
     · rfl
     · omega
theorem Dz5 (d:Ieee.Datum) (h:d.isNaN=false):isNaN (Ieee.double.write d)=false:=by
 unfold isNaN
 cases d with
 | nan s t=>simp [Ieee.Datum.isNaN] at h
 | infinity s=>exact Bo4 s _ (by rw [ir];exact Nat.le_refl _)
 | number s m e=>
   show (Ieee.double.read (Ieee.double.nearest s m e)).isNaN=false
   unfold Ieee.Format.nearest
   dsimp only
   split
   · exact Bo4 s 0 (by omega)
   · refine Bo4 s _ ?_
     rw [← ir];exact Nat.min_le_right _ _
theorem Di6 {a b d:Ieee.Datum} (h:a.sum b=some d):d.isNaN=false:=by
 cases a<;>cases b<;>simp only [Ieee.Datum.sum] at h<;>(first | (cases h;done) | skip)
 case infinity.infinity=>split at h<;>cases h;rfl
 all_goals (cases h;rfl)
theorem Db0 {a b d:Ieee.Datum} (h:a.product b=some d):d.isNaN=false:=by
 cases a<;>cases b<;>simp only [Ieee.Datum.product] at h<;>(first | (cases h;done) | skip)
 case infinity.number=>split at h<;>cases h;rfl
 case number.infinity=>split at h<;>cases h;rfl
 all_goals (cases h;rfl)
theorem Cv0 {k:Nat} {a b d:Ieee.Datum} (h:a.quotient k b=some d):d.isNaN=false:=by
 cases a<;>cases b<;>simp only [Ieee.Datum.quotient] at h<;>(first | (cases h;done) | skip)
 case number.number=>
  split at h
  · split at h<;>cases h;rfl
  · cases h;rfl
 all_goals (cases h;rfl)
theorem Fj5 {x:Nat} (h:isNaN x=false):nf x=x:=by simp [nf,h]
theorem Fc2 {x:Nat} (h:isNaN x=true):nf x=Gd8:=by simp [nf,h]
theorem As6 {o:Option Ieee.Datum} {r:Nat} (ho:∀ d,o=some d→d.isNaN=false) (h:o.map Ieee.double.write=some r):isNaN r=false:=by
 cases o with
 | none=>cases h
 | some d=>simp at h;subst h;exact Dz5 d (ho d rfl)
theorem Et5 {x y r:Nat} (h:Ieee.double.add x y=some r):isNaN r=false:=As6 (fun _ e=>Di6 e) h
theorem Et7 {x y r:Nat} (h:Ieee.double.sub x y=some r):isNaN r=false:=As6 (fun _ e=>Di6 e) h
theorem Eu4 {x y r:Nat} (h:Ieee.double.mul x y=some r):isNaN r=false:=As6 (fun _ e=>Db0 e) h
theorem Ew2 {x y r:Nat} (h:Ieee.double.div x y=some r):isNaN r=false:=As6 (fun _ e=>Cv0 e) h
theorem Fg7 (t:Nat):isNaN ((t%2)*2^63+0x7ff0000000000000+1+(t/2)%(2^52-1))=true:=by
 have c:t%2<2:=Nat.mod_lt _ (by omega)
 have a:(t/2)%(2^52-1)<2^52-1:=Nat.mod_lt _ (by decide)
 generalize t%2=s at *
 generalize (t/2)%(2^52-1)=f at *
 have b:(s*2^63+0x7ff0000000000000+1+f)%9223372036854775808=9218868437227405312+1+f:=by
  simp at a ⊢;omega
 unfold isNaN Ieee.Format.read
 rw [sw,ir,bn]
 simp only [b]
 rw [if_neg (by omega),if_neg (by omega),if_neg (by omega)]
 rfl
end Go.Eng
/-
  Floats up to which NaN it is (continued): equality, congruence. No condition.
-/
namespace Go.Eng
section
variable (op:Ieee.Datum→Ieee.Datum→Option Ieee.Datum)
end
end Go.Eng
