/-
  Floats of 64 bits as the model has them, up to which NaN it is: 'nf' takes every NaN to one of them; sum, difference, product, quotient as functions on words. No condition.
-/
import Ieee.Arith
import Derived.Laws.FloatBits
set_option linter.all false
namespace Go.Eng
def isNaN (x:Nat):Bool:=(Ieee.double.read x).isNaN
def Cx5:Nat:=9221120237041090561
def nf (x:Nat):Nat:=cond (isNaN x) Cx5 x
def As2 (x y:Nat):Nat:=(Ieee.double.add x y).getD Cx5
def Bn1 (x y:Nat):Nat:=(Ieee.double.sub x y).getD Cx5
def Cq0 (x y:Nat):Nat:=(Ieee.double.mul x y).getD Cx5
def fdiv (x y:Nat):Nat:=(Ieee.double.div x y).getD Cx5
def feq (x y:Nat):Bool:=Ieee.double.order x y==some .eq
def flt (x y:Nat):Bool:=Ieee.double.order x y==some .lt
def fgt (x y:Nat):Bool:=Ieee.double.order x y==some .gt
def Bn0 (x:Nat):Nat:=x ^^^ 2^63
theorem sw:Ieee.double.signWeight=9223372036854775808:=by decide +kernel
theorem ir:Ieee.double.infRung=9218868437227405312:=by decide +kernel
theorem bn:Ieee.double.binade=4503599627370496:=by decide +kernel
theorem Bv4 (neg:Bool) (r:Nat) (h:r≤9218868437227405312):(Ieee.double.read (Ieee.double.word neg r)).isNaN=false:=by
  unfold Ieee.Format.read Ieee.Format.word
  rw [sw,ir,bn]
  have h1:(if neg=true then 9223372036854775808+r else r)%9223372036854775808=r:=by
    split<;>omega
  simp only [h1]
  split
  · rfl
  · split
    · rfl
    · split
      · rfl
      · omega
theorem Ep9 (d:Ieee.Datum) (h:d.isNaN=false):isNaN (Ieee.double.write d)=false:=by
  unfold isNaN
  cases d with
  | nan s t=>simp [Ieee.Datum.isNaN] at h
  | infinity s=>exact Bv4 s _ (by rw [ir];exact Nat.le_refl _)
  | number s m e=>
    show (Ieee.double.read (Ieee.double.nearest s m e)).isNaN=false
    unfold Ieee.Format.nearest
    dsimp only
    split
    · exact Bv4 s 0 (by omega)
    · refine Bv4 s _ ?_
      rw [← ir];exact Nat.min_le_right _ _
theorem Dw1 {a b d:Ieee.Datum} (h:a.sum b=some d):d.isNaN=false:=by
  cases a<;>cases b<;>simp only [Ieee.Datum.sum] at h<;>(first | (cases h;done) | skip)
  case infinity.infinity=>split at h<;>cases h;rfl
  all_goals (cases h;rfl)
theorem Dp7 {a b d:Ieee.Datum} (h:a.product b=some d):d.isNaN=false:=by
  cases a<;>cases b<;>simp only [Ieee.Datum.product] at h<;>(first | (cases h;done) | skip)
  case infinity.number=>split at h<;>cases h;rfl
  case number.infinity=>split at h<;>cases h;rfl
  all_goals (cases h;rfl)
theorem Dk2 {k:Nat} {a b d:Ieee.Datum} (h:a.quotient k b=some d):d.isNaN=false:=by
  cases a<;>cases b<;>simp only [Ieee.Datum.quotient] at h<;>(first | (cases h;done) | skip)
  case number.number=>
    split at h
    · split at h<;>cases h;rfl
    · cases h;rfl
  all_goals (cases h;rfl)
theorem Ac3 {x:Nat} (h:isNaN x=false):nf x=x:=by simp [nf,h]
theorem Aj2 {x:Nat} (h:isNaN x=true):nf x=Cx5:=by simp [nf,h]
theorem Bk6:isNaN Cx5=true:=by decide +kernel
theorem Gy1:nf Cx5=Cx5:=Aj2 Bk6
theorem Ay3 (x:Nat):isNaN (nf x)=isNaN x:=by
  unfold nf
  cases h:isNaN x
  · simpa using h
  · simpa using Bk6
theorem Av1 {o:Option Ieee.Datum} {r:Nat} (ho:∀ d,o=some d→d.isNaN=false) (h:o.map Ieee.double.write=some r):isNaN r=false:=by
  cases o with
  | none=>cases h
  | some d=>simp at h;subst h;exact Ep9 d (ho d rfl)
theorem Dr5 {x y r:Nat} (h:Ieee.double.add x y=some r):isNaN r=false:=Av1 (fun _ e=>Dw1 e) h
theorem Ft2 {x y r:Nat} (h:Ieee.double.sub x y=some r):isNaN r=false:=Av1 (fun _ e=>Dw1 e) h
theorem Fo1 {x y r:Nat} (h:Ieee.double.mul x y=some r):isNaN r=false:=Av1 (fun _ e=>Dp7 e) h
theorem Fs3 {x y r:Nat} (h:Ieee.double.div x y=some r):isNaN r=false:=Av1 (fun _ e=>Dk2 e) h
theorem Fy6 (t:Nat):isNaN ((t%2)*2^63+0x7ff0000000000000+1+(t/2)%(2^52-1))=true:=by
  have h1:t%2<2:=Nat.mod_lt _ (by omega)
  have h2:(t/2)%(2^52-1)<2^52-1:=Nat.mod_lt _ (by decide)
  generalize t%2=s at *
  generalize (t/2)%(2^52-1)=f at *
  have h3:(s*2^63+0x7ff0000000000000+1+f)%9223372036854775808=9218868437227405312+1+f:=by
    simp at h2 ⊢;omega
  unfold isNaN Ieee.Format.read
  rw [sw,ir,bn]
  simp only [h3]
  rw [if_neg (by omega),if_neg (by omega),if_neg (by omega)]
  rfl
end Go.Eng
/-
  Floats up to which NaN it is (continued): equality, congruence. No condition.
-/
namespace Go.Eng
theorem Dc6 {x:Nat}:isNaN x=true↔∃ s f,Ieee.double.read x = .nan s f:=by
  unfold isNaN
  constructor
  · intro h
    cases hr:Ieee.double.read x with
    | nan s f=>exact ⟨s,f,rfl⟩
    | number s m e=>rw [hr] at h;cases h
    | infinity s=>rw [hr] at h;cases h
  · rintro ⟨s,f,h⟩;rw [h];rfl
theorem Ft3 (d:Ieee.Datum) (h:d.isNaN=false):d.order d=some .eq:=by
  cases d with
  | nan s f=>cases h
  | infinity s=>simp [Ieee.Datum.order]
  | number s m e=>simp [Ieee.Datum.order]
theorem Bw0 (x:Nat):feq x x = !isNaN x:=by
  unfold feq isNaN Ieee.Format.order
  cases h:(Ieee.double.read x).isNaN with
  | false=>rw [Ft3 _ h];rfl
  | true=>
    obtain ⟨s,f,hr⟩:=Dc6.1 (show isNaN x=true from h)
    rw [hr];rfl
theorem Fx0 {x y:Nat}:nf x=nf y↔x=y∨(isNaN x=true∧isNaN y=true):=by
  constructor
  · intro h
    cases hx:isNaN x with
    | false=>
      cases hy:isNaN y with
      | false=>rw [Ac3 hx,Ac3 hy] at h;exact .inl h
      | true=>
        rw [Ac3 hx,Aj2 hy] at h
        rw [h,Bk6] at hx;cases hx
    | true=>
      cases hy:isNaN y with
      | true=>exact .inr ⟨rfl,rfl⟩
      | false=>
        rw [Aj2 hx,Ac3 hy] at h
        rw [← h,Bk6] at hy;cases hy
  · rintro (rfl | ⟨hx,hy⟩)
    · rfl
    · rw [Aj2 hx,Aj2 hy]
theorem Ga2 (x y:Nat):(nf x==nf y)=((x==y)||(isNaN x&&isNaN y)):=by
  rw [Bool.eq_iff_iff]
  simp [Fx0]
section
variable (op:Ieee.Datum→Ieee.Datum→Option Ieee.Datum)
theorem Fz9 (a b:Ieee.Datum) (h:a.isNaN=true∨b.isNaN=true):a.sum b=none:=by
  cases a<;>cases b<;>simp_all [Ieee.Datum.isNaN,Ieee.Datum.sum]
theorem Fa3 (a b:Ieee.Datum) (h:a.isNaN=true∨b.isNaN=true):a.product b=none:=by
  cases a<;>cases b<;>simp_all [Ieee.Datum.isNaN,Ieee.Datum.product]
theorem Ev0 (k:Nat) (a b:Ieee.Datum) (h:a.isNaN=true∨b.isNaN=true):a.quotient k b=none:=by
  cases a<;>cases b<;>simp_all [Ieee.Datum.isNaN,Ieee.Datum.quotient]
end
theorem Em7 (d:Ieee.Datum):d.opposite.isNaN=d.isNaN:=by cases d<;>rfl
theorem Gm6 {x y:Nat} (h:isNaN x=true∨isNaN y=true):As2 x y=Cx5:=by
  unfold As2 Ieee.Format.add;rw [Fz9 _ _ h];rfl
theorem Gk1 {x y:Nat} (h:isNaN x=true∨isNaN y=true):Bn1 x y=Cx5:=by
  unfold Bn1 Ieee.Format.sub;rw [Fz9 _ _ (by rw [Em7];exact h)];rfl
theorem Gl6 {x y:Nat} (h:isNaN x=true∨isNaN y=true):Cq0 x y=Cx5:=by
  unfold Cq0 Ieee.Format.mul;rw [Fa3 _ _ h];rfl
theorem Gn1 {x y:Nat} (h:isNaN x=true∨isNaN y=true):fdiv x y=Cx5:=by
  unfold fdiv Ieee.Format.div;rw [Ev0 _ _ _ h];rfl
theorem Ch8 {f:Nat→Nat→Nat} (hf:∀ x y,isNaN x=true∨isNaN y=true→f x y=Cx5) (x y:Nat):f (nf x) (nf y)=f x y:=by
  cases hx:isNaN x with
  | true=>rw [hf x y (.inl hx),hf _ _ (.inl (by rw [Ay3];exact hx))]
  | false=>
    rw [Ac3 hx]
    cases hy:isNaN y with
    | true=>rw [hf x y (.inr hy),hf _ _ (.inr (by rw [Ay3];exact hy))]
    | false=>rw [Ac3 hy]
theorem Gw4 (x y:Nat):As2 (nf x) (nf y)=As2 x y:=Ch8 (fun _ _=>Gm6) x y
theorem Gu8 (x y:Nat):Bn1 (nf x) (nf y)=Bn1 x y:=Ch8 (fun _ _=>Gk1) x y
theorem Gv3 (x y:Nat):Cq0 (nf x) (nf y)=Cq0 x y:=Ch8 (fun _ _=>Gl6) x y
theorem Hb1 (x y:Nat):fdiv (nf x) (nf y)=fdiv x y:=Ch8 (fun _ _=>Gn1) x y
theorem Hi2 {o:Option Nat} (h:∀ r,o=some r→isNaN r=false):nf (o.getD Cx5)=o.getD Cx5:=by
  cases o with
  | none=>exact Gy1
  | some r=>exact Ac3 (h r rfl)
theorem Fw8 (x y:Nat):nf (As2 x y)=As2 x y:=Hi2 fun _=>Dr5
end Go.Eng
