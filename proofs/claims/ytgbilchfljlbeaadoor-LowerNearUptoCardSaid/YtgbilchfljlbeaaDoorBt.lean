
/-
  Between which floats a number lies that is no float: what rounding makes of it, by rungs. No condition.
-/
import Derived.Test.YtgbilchfljlbeaaDoorOf
set_option linter.all false
set_option maxRecDepth 100000
set_option maxHeartbeats 400000
set_option exponentiation.threshold 70000
namespace Go.Eng
open Go
def rungS (S:Nat) (L:Int):Nat:=(L+1074).toNat*4503599627370496+S
theorem rung_vmag {S:Nat} {L:Int} (hS:S≤9007199254740992) (hL : -1074≤L) (h:4503599627370496≤S∨L = -1074):vmag (rungS S L)=S*2^(L+1074).toNat:=by
  unfold rungS
  obtain ⟨k,hk⟩:∃ k:Nat,(L+1074).toNat=k:=⟨_,rfl⟩
  rw [hk]
  by_cases c:S<4503599627370496
  · have:k=0:=by omega
    subst this
    unfold vmag
    rw [if_pos (by omega)];simp
  · by_cases c2:S=9007199254740992
    · have e1:(k*4503599627370496+S)/4503599627370496-1=k+1:=by omega
      have e2:(k*4503599627370496+S)%4503599627370496=0:=by omega
      unfold vmag
      rw [if_neg (by omega),e1,e2,c2,Nat.pow_succ];omega
    · have e1:(k*4503599627370496+S)/4503599627370496-1=k:=by omega
      have e2:4503599627370496+(k*4503599627370496+S)%4503599627370496=S:=by omega
      unfold vmag
      rw [if_neg (by omega),e1,e2]
theorem near_rung (s:Bool) {S:Nat} {L:Int} (hS:S≤9007199254740992) (hL : -1074≤L) (hb:(blN S:Int)+L≤1024) (h:4503599627370496≤S∨L = -1074):Ieee.double.nearest s S L=Ieee.double.word s (rungS S L)∧rungS S L<9218868437227405312:=by
  by_cases s0:S=0
  · subst s0
    have:L = -1074:=by omega
    subst this
    rw [near_zero];exact ⟨rfl,by decide⟩
  · have hv:=rung_vmag hS hL h
    have ex:∃ f p,Ex f p∧Ieee.double.nearest s S L=Ieee.double.nearest s f p∧f*2^(p+1074).toNat=S*2^(L+1074).toNat:=by
      by_cases c:S=9007199254740992
      · have b54:blN S=54:=by rw [c];decide +kernel
        refine ⟨1,L+53,⟨by decide,by decide,by omega,by
          have:(1:Nat).log2=0:=by decide
          rw [this];omega⟩,?_,?_⟩
        · have:=nearest_shift s (m:=1) (by decide) L 53
          rw [c];exact this
        · rw [c,show (L+53+1074).toNat=53+(L+1074).toNat by omega,Nat.pow_add];omega
      · have:=blN_log s0
        exact ⟨S,L,⟨s0,by omega,hL,by omega⟩,rfl,rfl⟩
    obtain ⟨f,p,e1,e2,e3⟩:=ex
    obtain ⟨r,a,b,c,d⟩:=near_ex s e1
    have:r=rungS S L:=vmag_inj (by rw [d,hv,e3])
    rw [e2,a,this]
    exact ⟨rfl,by omega⟩
end Go.Eng
