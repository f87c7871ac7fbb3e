/-
  Floats of 64 bits as the model has them, up to which NaN it is: 'nf' takes every NaN to one of them; sum, difference, product, quotient as functions on words. No condition.
-/
import Ieee.Arith
import Derived.Laws.FloatBits
set_option linter.all false
namespace Go.Eng
def isNaN (x:Nat):Bool:=(Ieee.double.read x).isNaN
def qnan:Nat:=9221120237041090561
def nf (x:Nat):Nat:=cond (isNaN x) qnan x
def fadd (x y:Nat):Nat:=(Ieee.double.add x y).getD qnan
def fsub (x y:Nat):Nat:=(Ieee.double.sub x y).getD qnan
def fmul (x y:Nat):Nat:=(Ieee.double.mul x y).getD qnan
def fdiv (x y:Nat):Nat:=(Ieee.double.div x y).getD qnan
def feq (x y:Nat):Bool:=Ieee.double.order x y==some .eq
def flt (x y:Nat):Bool:=Ieee.double.order x y==some .lt
def fgt (x y:Nat):Bool:=Ieee.double.order x y==some .gt
def fneg (x:Nat):Nat:=x ^^^ 2^63
theorem sw:Ieee.double.signWeight=9223372036854775808:=by decide +kernel
theorem ir:Ieee.double.infRung=9218868437227405312:=by decide +kernel
theorem bn:Ieee.double.binade=4503599627370496:=by decide +kernel
theorem read_word_le (neg:Bool) (r:Nat) (h:r≤9218868437227405312):(Ieee.double.read (Ieee.double.word neg r)).isNaN=false:=by
  unfold Ieee.Format.read Ieee.Format.word
  rw [sw,ir,bn]
  have h1:(if neg=true then 9223372036854775808+r else r)%9223372036854775808=r:=by
    split<;>omega
  simp only [h1]
  split
  · rfl
  · split
    · rfl
    · split
      · rfl
      · omega
theorem write_notNaN (d:Ieee.Datum) (h:d.isNaN=false):isNaN (Ieee.double.write d)=false:=by
  unfold isNaN
  cases d with
  | nan s t=>simp [Ieee.Datum.isNaN] at h
  | infinity s=>exact read_word_le s _ (by rw [ir];exact Nat.le_refl _)
  | number s m e=>
    show (Ieee.double.read (Ieee.double.nearest s m e)).isNaN=false
    unfold Ieee.Format.nearest
    dsimp only
    split
    · exact read_word_le s 0 (by omega)
    · refine read_word_le s _ ?_
      rw [← ir];exact Nat.min_le_right _ _
theorem sum_notNaN {a b d:Ieee.Datum} (h:a.sum b=some d):d.isNaN=false:=by
  cases a<;>cases b<;>simp only [Ieee.Datum.sum] at h<;>(first | (cases h;done) | skip)
  case infinity.infinity=>split at h<;>cases h;rfl
  all_goals (cases h;rfl)
theorem product_notNaN {a b d:Ieee.Datum} (h:a.product b=some d):d.isNaN=false:=by
  cases a<;>cases b<;>simp only [Ieee.Datum.product] at h<;>(first | (cases h;done) | skip)
  case infinity.number=>split at h<;>cases h;rfl
  case number.infinity=>split at h<;>cases h;rfl
  all_goals (cases h;rfl)
theorem quotient_notNaN {k:Nat} {a b d:Ieee.Datum} (h:a.quotient k b=some d):d.isNaN=false:=by
  cases a<;>cases b<;>simp only [Ieee.Datum.quotient] at h<;>(first | (cases h;done) | skip)
  case number.number=>
    split at h
    · split at h<;>cases h;rfl
    · cases h;rfl
  all_goals (cases h;rfl)
theorem nf_of_not {x:Nat} (h:isNaN x=false):nf x=x:=by simp [nf,h]
theorem nf_of_nan {x:Nat} (h:isNaN x=true):nf x=qnan:=by simp [nf,h]
theorem isNaN_qnan:isNaN qnan=true:=by decide +kernel
theorem isNaN_nf (x:Nat):isNaN (nf x)=isNaN x:=by
  unfold nf
  cases h:isNaN x
  · simpa using h
  · simpa using isNaN_qnan
theorem map_write_notNaN {o:Option Ieee.Datum} {r:Nat} (ho:∀ d,o=some d→d.isNaN=false) (h:o.map Ieee.double.write=some r):isNaN r=false:=by
  cases o with
  | none=>cases h
  | some d=>simp at h;subst h;exact write_notNaN d (ho d rfl)
theorem add_notNaN {x y r:Nat} (h:Ieee.double.add x y=some r):isNaN r=false:=map_write_notNaN (fun _ e=>sum_notNaN e) h
theorem sub_notNaN {x y r:Nat} (h:Ieee.double.sub x y=some r):isNaN r=false:=map_write_notNaN (fun _ e=>sum_notNaN e) h
theorem mul_notNaN {x y r:Nat} (h:Ieee.double.mul x y=some r):isNaN r=false:=map_write_notNaN (fun _ e=>product_notNaN e) h
theorem div_notNaN {x y r:Nat} (h:Ieee.double.div x y=some r):isNaN r=false:=map_write_notNaN (fun _ e=>quotient_notNaN e) h
theorem nanCut (t:Nat):isNaN ((t%2)*2^63+0x7ff0000000000000+1+(t/2)%(2^52-1))=true:=by
  have h1:t%2<2:=Nat.mod_lt _ (by omega)
  have h2:(t/2)%(2^52-1)<2^52-1:=Nat.mod_lt _ (by decide)
  generalize t%2=s at *
  generalize (t/2)%(2^52-1)=f at *
  have h3:(s*2^63+0x7ff0000000000000+1+f)%9223372036854775808=9218868437227405312+1+f:=by
    simp at h2 ⊢;omega
  unfold isNaN Ieee.Format.read
  rw [sw,ir,bn]
  simp only [h3]
  rw [if_neg (by omega),if_neg (by omega),if_neg (by omega)]
  rfl
end Go.Eng
/-
  Floats up to which NaN it is (continued): equality, congruence. No condition.
-/
namespace Go.Eng
theorem nan_datum {x:Nat}:isNaN x=true↔∃ s f,Ieee.double.read x = .nan s f:=by
  unfold isNaN
  constructor
  · intro h
    cases hr:Ieee.double.read x with
    | nan s f=>exact ⟨s,f,rfl⟩
    | number s m e=>rw [hr] at h;cases h
    | infinity s=>rw [hr] at h;cases h
  · rintro ⟨s,f,h⟩;rw [h];rfl
theorem order_self (d:Ieee.Datum) (h:d.isNaN=false):d.order d=some .eq:=by
  cases d with
  | nan s f=>cases h
  | infinity s=>simp [Ieee.Datum.order]
  | number s m e=>simp [Ieee.Datum.order]
theorem feq_self (x:Nat):feq x x = !isNaN x:=by
  unfold feq isNaN Ieee.Format.order
  cases h:(Ieee.double.read x).isNaN with
  | false=>rw [order_self _ h];rfl
  | true=>
    obtain ⟨s,f,hr⟩:=nan_datum.1 (show isNaN x=true from h)
    rw [hr];rfl
theorem nf_eq_iff {x y:Nat}:nf x=nf y↔x=y∨(isNaN x=true∧isNaN y=true):=by
  constructor
  · intro h
    cases hx:isNaN x with
    | false=>
      cases hy:isNaN y with
      | false=>rw [nf_of_not hx,nf_of_not hy] at h;exact .inl h
      | true=>
        rw [nf_of_not hx,nf_of_nan hy] at h
        rw [h,isNaN_qnan] at hx;cases hx
    | true=>
      cases hy:isNaN y with
      | true=>exact .inr ⟨rfl,rfl⟩
      | false=>
        rw [nf_of_nan hx,nf_of_not hy] at h
        rw [← h,isNaN_qnan] at hy;cases hy
  · rintro (rfl | ⟨hx,hy⟩)
    · rfl
    · rw [nf_of_nan hx,nf_of_nan hy]
theorem same_bits (x y:Nat):(nf x==nf y)=((x==y)||(isNaN x&&isNaN y)):=by
  rw [Bool.eq_iff_iff]
  simp [nf_eq_iff]
section
variable (op:Ieee.Datum→Ieee.Datum→Option Ieee.Datum)
theorem sum_nan (a b:Ieee.Datum) (h:a.isNaN=true∨b.isNaN=true):a.sum b=none:=by
  cases a<;>cases b<;>simp_all [Ieee.Datum.isNaN,Ieee.Datum.sum]
theorem product_nan (a b:Ieee.Datum) (h:a.isNaN=true∨b.isNaN=true):a.product b=none:=by
  cases a<;>cases b<;>simp_all [Ieee.Datum.isNaN,Ieee.Datum.product]
theorem quotient_nan (k:Nat) (a b:Ieee.Datum) (h:a.isNaN=true∨b.isNaN=true):a.quotient k b=none:=by
  cases a<;>cases b<;>simp_all [Ieee.Datum.isNaN,Ieee.Datum.quotient]
end
theorem opposite_nan (d:Ieee.Datum):d.opposite.isNaN=d.isNaN:=by cases d<;>rfl
theorem fadd_nan {x y:Nat} (h:isNaN x=true∨isNaN y=true):fadd x y=qnan:=by
  unfold fadd Ieee.Format.add;rw [sum_nan _ _ h];rfl
theorem fsub_nan {x y:Nat} (h:isNaN x=true∨isNaN y=true):fsub x y=qnan:=by
  unfold fsub Ieee.Format.sub;rw [sum_nan _ _ (by rw [opposite_nan];exact h)];rfl
theorem fmul_nan {x y:Nat} (h:isNaN x=true∨isNaN y=true):fmul x y=qnan:=by
  unfold fmul Ieee.Format.mul;rw [product_nan _ _ h];rfl
theorem fdiv_nan {x y:Nat} (h:isNaN x=true∨isNaN y=true):fdiv x y=qnan:=by
  unfold fdiv Ieee.Format.div;rw [quotient_nan _ _ _ h];rfl
theorem nf_congr2 {f:Nat→Nat→Nat} (hf:∀ x y,isNaN x=true∨isNaN y=true→f x y=qnan) (x y:Nat):f (nf x) (nf y)=f x y:=by
  cases hx:isNaN x with
  | true=>rw [hf x y (.inl hx),hf _ _ (.inl (by rw [isNaN_nf];exact hx))]
  | false=>
    rw [nf_of_not hx]
    cases hy:isNaN y with
    | true=>rw [hf x y (.inr hy),hf _ _ (.inr (by rw [isNaN_nf];exact hy))]
    | false=>rw [nf_of_not hy]
theorem fadd_nf (x y:Nat):fadd (nf x) (nf y)=fadd x y:=nf_congr2 (fun _ _=>fadd_nan) x y
theorem fsub_nf (x y:Nat):fsub (nf x) (nf y)=fsub x y:=nf_congr2 (fun _ _=>fsub_nan) x y
theorem fmul_nf (x y:Nat):fmul (nf x) (nf y)=fmul x y:=nf_congr2 (fun _ _=>fmul_nan) x y
theorem fdiv_nf (x y:Nat):fdiv (nf x) (nf y)=fdiv x y:=nf_congr2 (fun _ _=>fdiv_nan) x y
end Go.Eng
