/-
  Floats of 64 bits as the model has them, up to which NaN it is: 'nf' takes every NaN to one of them; sum, difference, product, quotient as functions on words. No condition.
-/
import Ieee.Arith
import Derived.Laws.FloatBits
set_option linter.all false
namespace Go.Eng
def isNaN (x:Nat):Bool:=(Ieee.double.read x).isNaN
def qnan:Nat:=9221120237041090561
def nf (x:Nat):Nat:=cond (isNaN x) qnan x
def fadd (x y:Nat):Nat:=(Ieee.double.add x y).getD qnan
def fsub (x y:Nat):Nat:=(Ieee.double.sub x y).getD qnan
def fmul (x y:Nat):Nat:=(Ieee.double.mul x y).getD qnan
def fdiv (x y:Nat):Nat:=(Ieee.double.div x y).getD qnan
def feq (x y:Nat):Bool:=Ieee.double.order x y==some .eq
def flt (x y:Nat):Bool:=Ieee.double.order x y==some .lt
def fgt (x y:Nat):Bool:=Ieee.double.order x y==some .gt
def fneg (x:Nat):Nat:=x ^^^ 2^63
theorem sw:Ieee.double.signWeight=9223372036854775808:=by decide +kernel
theorem ir:Ieee.double.infRung=9218868437227405312:=by decide +kernel
theorem bn:Ieee.double.binade=4503599627370496:=by decide +kernel
theorem read_word_le (neg:Bool) (r:Nat) (h:r≤9218868437227405312):(Ieee.double.read (Ieee.double.word neg r)).isNaN=false:=by
  unfold Ieee.Format.read Ieee.Format.word
  rw [sw,ir,bn]
  have h1:(if neg=true then 9223372036854775808+r else r)%9223372036854775808=r:=by
    split<;>omega
  simp only [h1]
  split
  · rfl
  · split
    · rfl
    · split
      · rfl
      · omega
theorem write_notNaN (d:Ieee.Datum) (h:d.isNaN=false):isNaN (Ieee.double.write d)=false:=by
  unfold isNaN
  cases d with
  | nan s t=>simp [Ieee.Datum.isNaN] at h
  | infinity s=>exact read_word_le s _ (by rw [ir];exact Nat.le_refl _)
  | number s m e=>
    show (Ieee.double.read (Ieee.double.nearest s m e)).isNaN=false
    unfold Ieee.Format.nearest
    dsimp only
    split
    · exact read_word_le s 0 (by omega)
    · refine read_word_le s _ ?_
      rw [← ir];exact Nat.min_le_right _ _
theorem sum_notNaN {a b d:Ieee.Datum} (h:a.sum b=some d):d.isNaN=false:=by
  cases a<;>cases b<;>simp only [Ieee.Datum.sum] at h<;>(first | (cases h;done) | skip)
  case infinity.infinity=>split at h<;>cases h;rfl
  all_goals (cases h;rfl)
theorem product_notNaN {a b d:Ieee.Datum} (h:a.product b=some d):d.isNaN=false:=by
  cases a<;>cases b<;>simp only [Ieee.Datum.product] at h<;>(first | (cases h;done) | skip)
  case infinity.number=>split at h<;>cases h;rfl
  case number.infinity=>split at h<;>cases h;rfl
  all_goals (cases h;rfl)
theorem quotient_notNaN {k:Nat} {a b d:Ieee.Datum} (h:a.quotient k b=some d):d.isNaN=false:=by
  cases a<;>cases b<;>simp only [Ieee.Datum.quotient] at h<;>(first | (cases h;done) | skip)
  case number.number=>
    split at h
    · split at h<;>cases h;rfl
    · cases h;rfl
  all_goals (cases h;rfl)
theorem nf_of_not {x:Nat} (h:isNaN x=false):nf x=x:=by simp [nf,h]
theorem nf_of_nan {x:Nat} (h:isNaN x=true):nf x=qnan:=by simp [nf,h]
theorem map_write_notNaN {o:Option Ieee.Datum} {r:Nat} (ho:∀ d,o=some d→d.isNaN=false) (h:o.map Ieee.double.write=some r):isNaN r=false:=by
  cases o with
  | none=>cases h
  | some d=>simp at h;subst h;exact write_notNaN d (ho d rfl)
theorem add_notNaN {x y r:Nat} (h:Ieee.double.add x y=some r):isNaN r=false:=map_write_notNaN (fun _ e=>sum_notNaN e) h
theorem sub_notNaN {x y r:Nat} (h:Ieee.double.sub x y=some r):isNaN r=false:=map_write_notNaN (fun _ e=>sum_notNaN e) h
theorem mul_notNaN {x y r:Nat} (h:Ieee.double.mul x y=some r):isNaN r=false:=map_write_notNaN (fun _ e=>product_notNaN e) h
theorem div_notNaN {x y r:Nat} (h:Ieee.double.div x y=some r):isNaN r=false:=map_write_notNaN (fun _ e=>quotient_notNaN e) h
theorem nanCut (t:Nat):isNaN ((t%2)*2^63+0x7ff0000000000000+1+(t/2)%(2^52-1))=true:=by
  have h1:t%2<2:=Nat.mod_lt _ (by omega)
  have h2:(t/2)%(2^52-1)<2^52-1:=Nat.mod_lt _ (by decide)
  generalize t%2=s at *
  generalize (t/2)%(2^52-1)=f at *
  have h3:(s*2^63+0x7ff0000000000000+1+f)%9223372036854775808=9218868437227405312+1+f:=by
    simp at h2 ⊢;omega
  unfold isNaN Ieee.Format.read
  rw [sw,ir,bn]
  simp only [h3]
  rw [if_neg (by omega),if_neg (by omega),if_neg (by omega)]
  rfl
end Go.Eng
/-
  Floats up to which NaN it is (continued): equality, congruence. No condition.
-/
namespace Go.Eng
section
variable (op:Ieee.Datum→Ieee.Datum→Option Ieee.Datum)
end
end Go.Eng
