
/-
  Sums of lists of floats on the plain side. No condition.
-/
import Derived.Test.YtgbilchfljlbeaaGreatDoorPmA
import Derived.Test.YtgbilchfljlbeaaGreatDoorOpp
set_option linter.all false
set_option maxRecDepth 100000
set_option maxHeartbeats 4000000
namespace Go.Eng
open Go
def fitV (a b:List Nat):Int:=if a.length=b.length then (if 4096<a.length then 3 else 0) else 4
theorem fit_t (a b:List Nat):T_vector_fit a b=some (fitV a b):=by
  unfold T_vector_fit fitV
  simp only [Option.bind_some]
  refine eq_cond (fun h=>?_) (fun h=>?_)
  · have : ¬ a.length=b.length:=by simp at h;omega
    rw [if_neg this]
  · have:a.length=b.length:=by simp at h;omega
    rw [if_pos this]
    refine eq_cond (fun h=>?_) (fun h=>?_)
    · rw [if_pos (by simp at h;omega)]
    · rw [if_neg (by simp at h;omega)]
def zipV (g:Nat→Nat→Nat) (a b:List Nat):List Nat:=(List.range a.length).map fun i=>g (a.getD i 0) (b.getD i 0)
def eachV (g:Nat→Nat→Nat) (a b:List Nat):List Nat×Int:=if fitV a b=0 then (zipV g a b,0) else ([],fitV a b)
theorem fit_zero {a b:List Nat} (h:fitV a b=0):a.length=b.length∧a.length≤4096:=by
  unfold fitV at h
  split at h
  · split at h
    · cases h
    · exact ⟨by assumption,by omega⟩
  · cases h
theorem each_t {f:Nat→Nat→Option Nat} {g:Nat→Nat→Nat} (hf:∀ x y,f x y=some (g x y)) (a b:List Nat):T_vector_each a b f=some (eachV g a b):=by
  unfold T_vector_each eachV
  simp only [fit_t,Option.bind_some]
  by_cases h:fitV a b=0
  · obtain ⟨h1,h2⟩:=fit_zero h
    rw [if_pos h,cond_f (by simp [h]),mk_nat (by omega),Option.bind_some]
    have:=iter_nat (b:=T_vector_each_b2 ((a.length:Nat):Int) a b f) (fun i=>(((i:Nat):Int),filled a.length (nf 0) (fun i=>g (a.getD i 0) (b.getD i 0)) i)) (o:=zipV g a b) a.length (by rw [FU_eq];omega) (fun i hi=>by
      unfold T_vector_each_b2
      dsimp only
      rw [cond_t (by simp;omega),at_getD 0 hi,Option.bind_some,at_getD 0 (by omega),Option.bind_some,hf,Option.bind_some,at_getD 0 (by rw [filled_len (by omega)];exact hi)]
      simp only [Option.bind_some,Int.toNat_natCast]
      rw [filled_set hi,wrU (by omega)]) (by
      unfold T_vector_each_b2
      dsimp only
      rw [cond_f (by simp),filled_full];rfl)
    have this:iter (T_vector_each_b2 ((a.length:Nat):Int) a b f) FU (0,filled a.length (nf 0) (fun i=>g (a.getD i 0) (b.getD i 0)) 0)=some (zipV g a b):=this
    rw [filled_zero] at this
    rw [this];rfl
  · rw [if_neg h,cond_t (by simpa using h)];rfl
theorem vadd_t (a b:List Nat):T_vector_Add a b=some (eachV fadd a b):=by
  unfold T_vector_Add
  rw [each_t (f:=fun v0 v1=>T_vector_Add_1 v0 v1) (g:=fadd) (fun x y=>rfl) a b];rfl
end Go.Eng
