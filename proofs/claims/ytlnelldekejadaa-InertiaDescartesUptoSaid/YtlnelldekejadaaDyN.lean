
/-
  Dyads on the plain side: sameness. No condition.
-/
import Derived.Test.YtlnelldekejadaaDy2
set_option linter.all false
set_option maxRecDepth 100000
set_option maxHeartbeats 400000
set_option exponentiation.threshold 140000
namespace Go.Eng
open Go
theorem limbs_same {l m:List Int} (hl:l.length≤4294967296):T_k_SameLimbs l m=some (l==m):=by
  unfold T_k_SameLimbs
  simp only [Option.bind_some]
  refine eq_cond (fun h=>?_) (fun h=>?_)
  · have:l≠m:=fun e=>by subst e;simp at h
    simp [this]
  · have hlen:l.length=m.length:=by simp at h;omega
    have step:∀ i,i<l.length→l.getD i 0=m.getD i 0→T_k_SameLimbs_b2 l m ((i:Nat):Int)=some (.inl ((i+1:Nat):Int)):=by
      intro i hi he
      unfold T_k_SameLimbs_b2
      simp only [Option.bind_some,at_getD 0 hi,at_getD 0 (show i<m.length by omega),he,bne_self_eq_false,cF]
      rw [cond_t (by simp;omega),wrU (by omega)]
    by_cases he:l=m
    · subst he
      have:=iter_nat (b:=T_k_SameLimbs_b2 l l) (fun i=>((i:Nat):Int)) (o := .inl ()) l.length (by rw [FU_eq];omega) (fun i hi=>step i hi rfl) (by
        unfold T_k_SameLimbs_b2
        simp only [Option.bind_some]
        rw [cond_f (by simp)])
      rw [show ((0:Nat):Int)=0 from rfl] at this
      rw [this];simp
    · obtain ⟨i,hi,hne,hbef⟩:=first_diff 0 hlen he
      have:=iter_nat (b:=T_k_SameLimbs_b2 l m) (fun i=>((i:Nat):Int)) (o := .inr false) i (by rw [FU_eq];omega) (fun j hj=>step j (by omega) (hbef j hj)) (by
        unfold T_k_SameLimbs_b2
        simp only [Option.bind_some,at_getD 0 hi,at_getD 0 (show i<m.length by omega)]
        rw [cond_t (by simp;omega),cond_t (by simpa using hne)])
      rw [show ((0:Nat):Int)=0 from rfl] at this
      rw [this];simp [he]
theorem dyad_same {s t:Bool} {l m:List Int} {e f:Int} (hl:l.length≤4294967296):T_k_SameDyad s l e t m f=some (s==t&&l==m&&e==f):=by
  unfold T_k_SameDyad
  rw [limbs_same hl]
  cases s==t<;>cases l==m<;>rfl
end Go.Eng
/-
  Dyads on the plain side: opposites, differences. No condition.
-/
set_option maxRecDepth 100000
set_option maxHeartbeats 400000
set_option exponentiation.threshold 140000
namespace Go.Eng
open Go
theorem neg_gd {s:Bool} {l:List Int} {e:Int} (h:Gd s l e):∃ s',T_dyad_Neg s l e=some (s',l,e,0)∧Gd s' l e∧nD s' l e = - nD s l e:=by
  have hl:=h.ld
  unfold T_dyad_Neg
  rw [right_of h,Option.bind_some,Bool.not_true,cF,app_le (by simp;omega)]
  have num:∀ a b:Bool,zD a l = - zD b l→nD a l e = - nD b l e:=fun a b h=>by unfold nD;rw [h,Int.neg_mul]
  cases s with
  | false=>
    rw [Bool.not_false,cT,Option.bind_some,Option.bind_some]
    rcases h with ⟨rfl,_,rfl⟩ | ⟨m,h1,h2,h3,h4,h5⟩
    · exact ⟨false,rfl,.inl ⟨rfl,rfl,rfl⟩,num _ _ rfl⟩
    · have:decide (((l.length:Nat):Int)>0)=true:=by
        have:l ≠ []:=fun c=>by rw [c] at h2;have:=LW_nil.1 h2.symm;omega
        have:=List.length_pos_iff.2 this
        simp;omega
      refine ⟨true,by rw [this];rfl,.inr ⟨m,h1,h2,h3,h4,h5⟩,num _ _ rfl⟩
  | true=>
    rw [Bool.not_true,cF,Option.bind_some]
    rcases h with ⟨_,h,_⟩ | ⟨m,h1,h2,h3,h4,h5⟩
    · cases h
    · refine ⟨false,rfl,.inr ⟨m,h1,h2,h3,h4,h5⟩,num _ _ ?_⟩
      unfold zD sgN
      simp
theorem cano_cases (z e:Int):(∃ s l f,cano z e=(s,l,f,3)∧l.length≤4294967296)∨∃ s l f,cano z e=(s,l,f,0)∧Gd s l f:=by
  rcases cano_out z e with h | ⟨s,l,f,h1,h2,_⟩
  · exact .inl ⟨false,[],0,h,by simp⟩
  · exact .inr ⟨s,l,f,h1,h2⟩
theorem cano_code (z e:Int):(cano z e).2.2.2=3∨(cano z e).2.2.2=0:=by
  rcases cano_cases z e with ⟨s,l,f,h,hl⟩ | ⟨s,l,f,h,hg⟩
  · left;rw [h]
  · right;rw [h]
theorem pow_cancel {a b:Int} {k:Nat} (h:a*((2^k:Nat):Int)=b*((2^k:Nat):Int)):a=b:=by
  have:=Nat.two_pow_pos k
  exact Int.eq_of_mul_eq_mul_right (by omega) h
end Go.Eng
/-
  Dyads on the plain side: dyad.Norm by value, copies. No condition.
-/
set_option maxRecDepth 100000
set_option maxHeartbeats 400000
set_option exponentiation.threshold 140000
namespace Go.Eng
open Go
theorem norm_t {s:Bool} {l:List Int} {e:Int} (hl:Ld l) (hn:l.length≤1048576):T_dyad_Norm s l e=some (cano (zD s l) e):=by
  unfold T_dyad_Norm
  rw [whole_t hl (by omega),Option.bind_some]
  have hz:(zD s l).natAbs<2^(64*l.length):=by rw [zD_abs];exact lv_lt hl
  rw [show sgN s (lv l)=zD s l from rfl,made_t hz (by omega),Option.bind_some]
end Go.Eng
