
/-
  Sums rounded to a side, the code's and the reference's, on the plain side: both come to 'addV'. No condition.
-/
import Derived.Test.YtgbilchfljlbeaaGreatDoorOpp
import Derived.Test.YtgbilchfljlbeaaGreatDoorTp
set_option linter.all false
set_option maxRecDepth 100000
set_option maxHeartbeats 4000000
namespace Go.Eng
open Go
theorem signbit_t {x:Nat} (h:isNaN x=false):T_math_Signbit x=some (negF x):=by unfold T_math_Signbit;rw [h];rfl
theorem abs_t (x:Nat):T_math_Abs x=some (nf (magF x)):=rfl
theorem isInf_t {x:Nat} (h:isNaN x=false):T_math_IsInf x 0=some (decide (magF x=9218868437227405312)):=by
  have h1:isNaN (magF x)=false:=by
    rw [isNaN_mag] at h ⊢;rw [magF_magF];exact h
  unfold T_math_IsInf
  have e:nf 9218868437227405311=9218868437227405311:=by decide +kernel
  simp only [abs_t,nf_of_not h1,Option.bind_some,beq_self_eq_true,cT,isInf_test,e]
theorem copysign_t {x y:Nat} (h:isNaN y=false):T_math_Copysign x y=some (nf ((if negF y then 9223372036854775808 else 0)+magF x)):=by unfold T_math_Copysign;rw [h];rfl
theorem vstep_t {x:Nat} (hx:isNaN x=false) (up:Bool):T_round_step x up=some (nf (stepV x up)):=by
  have hm:magF x≤9218868437227405312:=by rw [isNaN_mag] at hx;simp at hx;omega
  unfold T_round_step T_math_Float64bits T_math_Float64frombits
  rw [hx]
  simp only [cF,Option.bind_some,nf_zero,feq_zero]
  by_cases h0:magF x=0
  · have e:decide (magF x=0)=true:=by simp [Bool.cond_eq_ite,h0]
    rw [e,cT]
    unfold stepV
    rw [if_pos h0]
    cases up<;>rfl
  · have e:decide (magF x=0)=false:=by simp [Bool.cond_eq_ite,h0]
    have hg:fgt x 0 = !negF x:=by rw [fgt_zero];simp [Bool.cond_eq_ite,h0,hm]
    rw [e,cF,hg]
    have hx0:0<x:=by
      rcases Nat.eq_zero_or_pos x with h | h
      · subst h;exact absurd (by decide:magF 0=0) h0
      · exact h
    have e1:(IntKind.u64.wrap ((x:Int)+1)).toNat=(x+1)%18446744073709551616:=by rw [← u64w (x+1)];rfl
    have e2:(IntKind.u64.wrap ((x:Int)-1)).toNat=(x+18446744073709551615)%18446744073709551616:=by
      have:((x:Int)-1)=((x-1:Nat):Int):=by omega
      rw [this,u64w];omega
    unfold stepV
    rw [if_neg h0]
    cases hb:up == !negF x
    · simp [Bool.cond_eq_ite,e2]
    · simp [Bool.cond_eq_ite,e1]
theorem settle_t {s:Nat} (hx:isNaN s=false) (off m:Int):T_round_settle s off m=some (nf (settleV s off m)):=by
  have hm:magF s≤9218868437227405312:=by rw [isNaN_mag] at hx;simp at hx;omega
  have hs:=nf_of_not hx
  unfold T_round_settle
  have e1:(cond (m==3) ((T_math_Signbit s).bind fun t2=>(cond t2 (some (2:Int)) (some 1)).bind fun t3=>some t3) (some m))=some (sideM s m):=by
    rw [signbit_t hx]
    refine eq_cond (fun h=>?_) (fun h=>?_)
    · have h:m=3:=by simpa using h
      cases hn:negF s<;>simp [Bool.cond_eq_ite,sideM,h,hn]
    · have h:m≠3:=by simpa using h
      simp [Bool.cond_eq_ite,sideM,h]
  rw [e1]
  simp only [Option.bind_some,isInf_t hx,nf_zero,vstep_t hx,copysign_t hx]
  have em:magF (nf 9218868437227405311)=9218868437227405311:=by decide +kernel
  rw [em]
  refine eq_cond (fun hb=>?_) (fun hb=>?_)
  · have hi:magF s=9218868437227405312:=by simpa using hb
    have hg:fgt s 0 = !negF s:=by rw [fgt_zero];simp [Bool.cond_eq_ite,hi]
    have hlt:flt s 0=negF s:=by rw [flt_zero];simp [Bool.cond_eq_ite,hi]
    rw [hg,hlt]
    unfold settleV
    rw [if_pos hi]
    cases hn:negF s<;>by_cases h1:sideM s m=1<;>by_cases h2:sideM s m=2<;>simp [Bool.cond_eq_ite,h1,h2,hs]
  · have hi:magF s≠9218868437227405312:=by simpa using hb
    unfold settleV
    rw [if_neg hi]
    by_cases h1:off<0
    · have h2 : ¬ 0<off:=by omega
      by_cases h3:sideM s m=1<;>by_cases h4:sideM s m=2<;>simp [Bool.cond_eq_ite,h1,h2,h3,h4,hs]
    · by_cases h2:0<off
      · by_cases h3:sideM s m=1<;>by_cases h4:sideM s m=2<;>simp [Bool.cond_eq_ite,h1,h2,h3,h4,hs]
      · simp [Bool.cond_eq_ite,h1,h2,hs]
theorem vsign_t (x:Nat):T_round_sign x=some (sgnV x):=by
  unfold T_round_sign sgnV
  simp only [Option.bind_some,nf_zero]
  cases fgt x 0<;>cases flt x 0<;>rfl
theorem finite2_t {a b:Nat}:T_round_finite [a,b]=some (finF a&&finF b):=by
  have fin:∀ x:Nat,isNaN x=false→finF x = !decide (magF x=9218868437227405312):=fun x h1=>by
    rw [isNaN_mag] at h1;simp at h1;unfold finF;rw [Bool.eq_iff_iff];simp;omega
  have nan:∀ x:Nat,isNaN x=true→finF x=false:=fun x h1=>by rw [isNaN_mag] at h1;simp at h1;simp [Bool.cond_eq_ite,finF];omega
  have nan_t:∀ x,T_math_IsNaN x=some (isNaN x):=fun x=>by unfold T_math_IsNaN;rw [feq_self];simp
  have body:∀ (i:Nat) (x:Nat),[a,b][i]?=some x→T_round_finite_b2 2 [a,b] (i:Int)=some (cond (finF x) (.inl ((i+1:Nat):Int)) (.inr (.inr false))):=fun i x hx=>by
    have hi:i < [a,b].length:=by
      rcases Nat.lt_or_ge i [a,b].length with h | h
      · exact h
      · rw [List.getElem?_eq_none h] at hx;cases hx
    have hi2:i<2:=by simpa using hi
    unfold T_round_finite_b2
    dsimp only
    rw [cond_t (by simp;omega),at_nat hi]
    have e : [a,b][i]=x:=by rw [List.getElem?_eq_getElem hi] at hx;exact Option.some.inj hx
    rw [e,Option.bind_some,nan_t,Option.bind_some]
    cases hn:isNaN x with
    | true=>rw [nan x hn];rfl
    | false =>
      rw [isInf_t hn,fin x hn]
      simp only [Bool.not_false,cT,Option.bind_some]
      cases decide (magF x=9218868437227405312)
      · simp only [cF,Bool.not_false,cT]
        rw [wrU (by omega)]
      · rfl
  unfold T_round_finite
  simp only [Option.bind_some]
  have b0:=body 0 a rfl
  have b1:=body 1 b rfl
  have b2:T_round_finite_b2 2 [a,b] 2=some (.inr (.inl ())):=rfl
  show ((iter (T_round_finite_b2 2 [a,b]) FU ((0:Nat):Int):Option (Unit⊕Bool))).bind _=_
  cases ha:finF a with
  | false =>
    rw [ha] at b0
    rw [iter_nat (fun i=>((i:Nat):Int)) 0 (by rw [FU_eq];omega) (fun i hi=>by omega) b0]
    rfl
  | true =>
    rw [ha] at b0
    cases hb:finF b with
    | false =>
      rw [hb] at b1
      rw [iter_nat (fun i => ((i : Nat) : Int)) 1 (by rw [FU_eq]; omega) (fun i hi => by have : i = 0 := by omega
                                                                                         subst this;exact b0) b1]
      rfl
    | true =>
      rw [hb] at b1
      rw [iter_nat (fun i=>((i:Nat):Int)) 2 (by rw [FU_eq];omega) (fun i hi=>by
        rcases (by omega:i=0∨i=1) with h | h
        · subst h;exact b0
        · subst h;exact b1) b2]
      rfl
theorem none_t (m:Int):T_round_none m=some (if m=1 then 9223372036854775808 else 0):=by
  unfold T_round_none
  have e:T_math_Copysign (nf 0) (nf 13830554455654793216)=some 9223372036854775808:=by decide +kernel
  rw [e,nf_zero]
  by_cases h:m=1<;>simp [Bool.cond_eq_ite,h]
theorem fin_nan {x:Nat} (h:finF x=true):isNaN x=false:=by
  unfold finF at h;rw [isNaN_mag];simp at h ⊢;omega
theorem vsum_t {a b:Nat} {m:Int} (h0:0≤m) (h3:m≤3):T_round_Add a b m=some (nf (addV a b m)):=by
  have hway:T_round_way m=some m:=by
    unfold T_round_way
    rw [cond_t (by simp;omega),cond_f (by simp;omega)]
  unfold T_round_Add
  simp only [hway,Option.bind_some,finite2_t]
  cases hf:finF a&&finF b with
  | false =>
    have hn : ¬ (finF a=true∧finF b=true):=by
      rintro ⟨q1,q2⟩
      rw [q1,q2] at hf;cases hf
    have e:addV a b m=fadd a b:=by unfold addV;rw [if_neg hn]
    rw [e,nf_fadd];rfl
  | true =>
    have hf':finF a=true∧finF b=true:=by simpa using hf
    have ha:magF a<9218868437227405312:=by simpa [finF] using hf'.1
    have hb':magF b<9218868437227405312:=by simpa [finF] using hf'.2
    have hsn:=fadd_fin_nan ha hb'
    have hs:=nf_of_not hsn
    have key:addV a b m=if magF (fadd a b)=0 then (if magF a=0∧negF a=negF b then fadd a b else if m=1 then 9223372036854775808 else 0)
      else if magF (fadd a b)=9218868437227405312 then settleV (fadd a b) 0 m
      else settleV (fadd a b) (sgnV (fsub (if flt (magF a) (magF b) then a else b) (fsub (fadd a b) (if flt (magF a) (magF b) then b else a)))) m:=by
      unfold addV;rw [if_pos hf']
    simp only [Bool.not_true,cF,nf_zero,feq_zero,signbit_t (fin_nan hf'.1),signbit_t (fin_nan hf'.2),Option.bind_some,none_t,isInf_t hsn,settle_t hsn,abs_t,vsign_t]
    by_cases hz:magF (fadd a b)=0
    · rw [key,if_pos hz]
      by_cases z2:magF a=0
      · by_cases hn:negF a=negF b
        · simp [Bool.cond_eq_ite,hz,z2,hn,hs]
        · by_cases hm:m=1
          · subst hm;simp [Bool.cond_eq_ite,hz,z2,hn];decide +kernel
          · simp [Bool.cond_eq_ite,hz,z2,hn,hm,nf_zero]
      · by_cases hm:m=1
        · subst hm;simp [Bool.cond_eq_ite,hz,z2];decide +kernel
        · simp [Bool.cond_eq_ite,hz,z2,hm,nf_zero]
    · rw [key,if_neg hz]
      by_cases hi:magF (fadd a b)=9218868437227405312
      · simp [Bool.cond_eq_ite,hi]
      · have e1:nf (magF a)=magF a:=nf_of_not (by rw [isNaN_mag,magF_magF];simp;omega)
        have e2:nf (magF b)=magF b:=nf_of_not (by rw [isNaN_mag,magF_magF];simp;omega)
        rw [if_neg hi]
        simp only [hz,hi,e1,e2,decide_false,cF,Option.bind_some]
        cases hc:flt (magF a) (magF b)<;>simp
end Go.Eng
