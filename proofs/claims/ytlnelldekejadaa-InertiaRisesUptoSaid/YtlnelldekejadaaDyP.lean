
/-
  Dyads on the plain side: sameness. No condition.
-/
import Derived.Test.YtlnelldekejadaaDy2
set_option linter.all false
set_option maxRecDepth 100000
set_option maxHeartbeats 400000
set_option exponentiation.threshold 140000
namespace Go.Eng
open Go
end Go.Eng
/-
  Dyads on the plain side: opposites, differences. No condition.
-/
set_option maxRecDepth 100000
set_option maxHeartbeats 400000
set_option exponentiation.threshold 140000
namespace Go.Eng
open Go
theorem neg_gd {s:Bool} {l:List Int} {e:Int} (h:Gd s l e):∃ s',T_dyad_Neg s l e=some (s',l,e,0)∧Gd s' l e∧nD s' l e = - nD s l e:=by
  have hl:=h.ld
  unfold T_dyad_Neg
  rw [right_of h,Option.bind_some,Bool.not_true,cF,app_le (by simp;omega)]
  have num:∀ a b:Bool,zD a l = - zD b l→nD a l e = - nD b l e:=fun a b h=>by unfold nD;rw [h,Int.neg_mul]
  cases s with
  | false=>
    rw [Bool.not_false,cT,Option.bind_some,Option.bind_some]
    rcases h with ⟨rfl,_,rfl⟩ | ⟨m,h1,h2,h3,h4,h5⟩
    · exact ⟨false,rfl,.inl ⟨rfl,rfl,rfl⟩,num _ _ rfl⟩
    · have:decide (((l.length:Nat):Int)>0)=true:=by
        have:l ≠ []:=fun c=>by rw [c] at h2;have:=LW_nil.1 h2.symm;omega
        have:=List.length_pos_iff.2 this
        simp;omega
      refine ⟨true,by rw [this];rfl,.inr ⟨m,h1,h2,h3,h4,h5⟩,num _ _ rfl⟩
  | true=>
    rw [Bool.not_true,cF,Option.bind_some]
    rcases h with ⟨_,h,_⟩ | ⟨m,h1,h2,h3,h4,h5⟩
    · cases h
    · refine ⟨false,rfl,.inr ⟨m,h1,h2,h3,h4,h5⟩,num _ _ ?_⟩
      unfold zD sgN
      simp
theorem sub_gd {s t:Bool} {l m:List Int} {e f:Int} (h:Gd s l e) (k:Gd t m f):T_dyad_Sub s l e t m f=some (cano (nD s l e-nD t m f) (-65536)):=by
  obtain ⟨t',n1,n2,n3⟩:=neg_gd k
  unfold T_dyad_Sub
  rw [n1,Option.bind_some]
  dsimp only
  rw [cond_f (by decide),dadd_t h n2,Option.bind_some,n3,Int.sub_eq_add_neg]
theorem cano_cases (z e:Int):(∃ s l f,cano z e=(s,l,f,3)∧l.length≤4294967296)∨∃ s l f,cano z e=(s,l,f,0)∧Gd s l f:=by
  rcases cano_out z e with h | ⟨s,l,f,h1,h2,_⟩
  · exact .inl ⟨false,[],0,h,by simp⟩
  · exact .inr ⟨s,l,f,h1,h2⟩
theorem pow_cancel {a b:Int} {k:Nat} (h:a*((2^k:Nat):Int)=b*((2^k:Nat):Int)):a=b:=by
  have:=Nat.two_pow_pos k
  exact Int.eq_of_mul_eq_mul_right (by omega) h
end Go.Eng
