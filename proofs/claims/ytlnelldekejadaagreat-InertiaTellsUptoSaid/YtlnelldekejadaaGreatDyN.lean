/-
  Dyads on the plain side: sameness. No condition.
-/
import Derived.Test.YtlnelldekejadaaGreatDy2
set_option linter.all false
set_option maxRecDepth 100000
set_option maxHeartbeats 400000
set_option exponentiation.threshold 140000
open Option renaming bind_some→AA
namespace Go.Eng
open Go
theorem Es2 {l m:List Int} (hl:l.length≤4294967296):Av7 l m=some (l==m):=by
 unfold Av7
 simp only [AA]
 refine Ba5 (fun h=>?_) (fun h=>?_)
 · have:l≠m:=fun e=>by subst e;simp at h
   simp [this]
 · have hlen:l.length=m.length:=by simp at h;omega
   have step:∀ i,i<l.length→l.getD i 0=m.getD i 0→Ag9 l m ((i:Nat):Int)=some (.inl ((i+1:Nat):Int)):=by
    intro i hi he
    unfold Ag9
    simp only [AA,Ac1 0 hi,Ac1 0 (show i<m.length by omega),he,bne_self_eq_false,cF]
    rw [Ab0 (by simp;omega),wrU (by omega)]
   by_cases he:l=m
   · subst he
     have:=Ac7 (b:=Ag9 l l) (fun i=>((i:Nat):Int)) (o := .inl ()) l.length (by rw [Af4];omega) (fun i hi=>step i hi rfl) (by
      unfold Ag9
      simp only [AA]
      rw [Ab1 (by simp)])
     rw [show ((0:Nat):Int)=0 from rfl] at this
     rw [this];simp
   · obtain ⟨i,hi,hne,hbef⟩:=De1 0 hlen he
     have:=Ac7 (b:=Ag9 l m) (fun i=>((i:Nat):Int)) (o := .inr false) i (by rw [Af4];omega) (fun j hj=>step j (by omega) (hbef j hj)) (by
      unfold Ag9
      simp only [AA,Ac1 0 hi,Ac1 0 (show i<m.length by omega)]
      rw [Ab0 (by simp;omega),Ab0 (by simpa using hne)])
     rw [show ((0:Nat):Int)=0 from rfl] at this
     rw [this];simp [he]
theorem Cr8 {s t:Bool} {l m:List Int} {e f:Int} (hl:l.length≤4294967296):Am8 s l e t m f=some (s==t&&l==m&&e==f):=by
 unfold Am8
 rw [Es2 hl]
 cases s==t<;>cases l==m<;>rfl
end Go.Eng
/-
  Dyads on the plain side: opposites, differences. No condition.
-/
namespace Go.Eng
open Go
theorem Et1 (z e:Int):(∃ s l f,Bm6 z e=(s,l,f,3)∧l.length≤4294967296)∨∃ s l f,Bm6 z e=(s,l,f,0)∧Gd s l f:=by
 rcases Ej4 z e with h | ⟨s,l,f,a,b,_⟩
 · exact .inl ⟨false,[],0,h,by simp⟩
 · exact .inr ⟨s,l,f,a,b⟩
theorem Dt7 (z e:Int):(Bm6 z e).2.2.2=3∨(Bm6 z e).2.2.2=0:=by
 rcases Et1 z e with ⟨s,l,f,h,hl⟩ | ⟨s,l,f,h,hg⟩
 · left;rw [h]
 · right;rw [h]
theorem Ce7 {a b:Int} {k:Nat} (h:a*((2^k:Nat):Int)=b*((2^k:Nat):Int)):a=b:=by
 have:=Nat.two_pow_pos k
 exact Int.eq_of_mul_eq_mul_right (by omega) h
end Go.Eng
/-
  Dyads on the plain side: dyad.Norm by value, copies. No condition.
-/
namespace Go.Eng
open Go
theorem Gq6 {s:Bool} {l:List Int} {e:Int} (hl:Ld l) (hn:l.length≤1048576):Bc2 s l e=some (Bm6 (zD s l) e):=by
 unfold Bc2
 rw [Ei8 hl (by omega),AA]
 have hz:(zD s l).natAbs<2^(64*l.length):=by rw [Cy1];exact Bl1 hl
 rw [show sgN s (lv l)=zD s l from rfl,Gr3 hz (by omega),AA]
end Go.Eng
