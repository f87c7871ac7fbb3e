
/-
  Sums rounded to a side, the code's and the reference's, on the plain side: both come to 'addV'. No condition.
-/
import Derived.Test.YtgbilchfljlbeaaGreatDoorOpp
import Derived.Test.YtgbilchfljlbeaaGreatDoorTp
set_option linter.all false
set_option maxRecDepth 100000
set_option maxHeartbeats 4000000
namespace Go.Eng
open Go
theorem Bm5 {x:Nat} (h:isNaN x=false):Ac9 x=some (Ae3 x):=by unfold Ac9;rw [h];rfl
theorem Gg0 (x:Nat):Af9 x=some (nf (Ab2 x)):=rfl
theorem Ex4 {x:Nat} (h:isNaN x=false):Af4 x 0=some (decide (Ab2 x=9218868437227405312)):=by
  have h1:isNaN (Ab2 x)=false:=by
    rw [Ad0] at h ⊢;rw [Ap1];exact h
  unfold Af4
  have e:nf 9218868437227405311=9218868437227405311:=by decide +kernel
  simp only [Gg0,Ac3 h1,Option.bind_some,beq_self_eq_true,cT,Dr9,e]
theorem Dr1 {x y:Nat} (h:isNaN y=false):Ac0 x y=some (nf ((if Ae3 y then 9223372036854775808 else 0)+Ab2 x)):=by unfold Ac0;rw [h];rfl
theorem Gc0 {x:Nat} (hm:Ab2 x≤9218868437227405312) (hi:Ab2 x≠9218868437227405312) (hl:x<18446744073709551616) (up:Bool):isNaN (Bx4 x up)=false:=by
  have hw:=Cn4 hl
  rw [Ad0]
  unfold Bx4
  by_cases h0:Ab2 x=0
  · rw [if_pos h0];cases up<;>decide
  · rw [if_neg h0]
    cases hn:Ae3 x<;>rw [hn] at hw<;>simp only [if_true,Bool.false_eq_true,if_false] at hw<;>cases up<;>simp<;>unfold Ab2 at * <;> omega
theorem Hc1 {x:Nat} (hx:isNaN x=false) (up:Bool):Ar1 x up=some (nf (Bx4 x up)):=by
  have hm:Ab2 x≤9218868437227405312:=by rw [Ad0] at hx;simp at hx;omega
  unfold Ar1 Ac4 Ab1
  rw [hx]
  simp only [cF,Option.bind_some,Ah1,Bj0]
  by_cases h0:Ab2 x=0
  · have e:decide (Ab2 x=0)=true:=by simp [Bool.cond_eq_ite,h0]
    rw [e,cT]
    unfold Bx4
    rw [if_pos h0]
    cases up<;>rfl
  · have e:decide (Ab2 x=0)=false:=by simp [Bool.cond_eq_ite,h0]
    have hg:fgt x 0 = !Ae3 x:=by rw [Ch9];simp [Bool.cond_eq_ite,h0,hm]
    rw [e,cF,hg]
    have hx0:0<x:=by
      rcases Nat.eq_zero_or_pos x with h | h
      · subst h;exact absurd (by decide:Ab2 0=0) h0
      · exact h
    have e1:(IntKind.u64.wrap ((x:Int)+1)).toNat=(x+1)%18446744073709551616:=by rw [← Hm1 (x+1)];rfl
    have e2:(IntKind.u64.wrap ((x:Int)-1)).toNat=(x+18446744073709551615)%18446744073709551616:=by
      have:((x:Int)-1)=((x-1:Nat):Int):=by omega
      rw [this,Hm1];omega
    unfold Bx4
    rw [if_neg h0]
    cases hb:up == !Ae3 x
    · simp [Bool.cond_eq_ite,e2]
    · simp [Bool.cond_eq_ite,e1]
theorem Gm5 {s:Nat} (hx:isNaN s=false) (off m:Int):Ap8 s off m=some (nf (At6 s off m)):=by
  have hm:Ab2 s≤9218868437227405312:=by rw [Ad0] at hx;simp at hx;omega
  have hs:=Ac3 hx
  unfold Ap8
  have e1:(cond (m==3) ((Ac9 s).bind fun t2=>(cond t2 (some (2:Int)) (some 1)).bind fun t3=>some t3) (some m))=some (Be5 s m):=by
    rw [Bm5 hx]
    refine Ba0 (fun h=>?_) (fun h=>?_)
    · have h:m=3:=by simpa using h
      cases hn:Ae3 s<;>simp [Bool.cond_eq_ite,Be5,h,hn]
    · have h:m≠3:=by simpa using h
      simp [Bool.cond_eq_ite,Be5,h]
  rw [e1]
  simp only [Option.bind_some,Ex4 hx,Ah1,Hc1 hx,Dr1 hx]
  have em:Ab2 (nf 9218868437227405311)=9218868437227405311:=by decide +kernel
  rw [em]
  refine Ba0 (fun hb=>?_) (fun hb=>?_)
  · have hi:Ab2 s=9218868437227405312:=by simpa using hb
    have hg:fgt s 0 = !Ae3 s:=by rw [Ch9];simp [Bool.cond_eq_ite,hi]
    have hlt:flt s 0=Ae3 s:=by rw [Eg4];simp [Bool.cond_eq_ite,hi]
    rw [hg,hlt]
    unfold At6
    rw [if_pos hi]
    cases hn:Ae3 s<;>by_cases h1:Be5 s m=1<;>by_cases h2:Be5 s m=2<;>simp [Bool.cond_eq_ite,h1,h2,hs]
  · have hi:Ab2 s≠9218868437227405312:=by simpa using hb
    unfold At6
    rw [if_neg hi]
    by_cases h1:off<0
    · have h2 : ¬ 0<off:=by omega
      by_cases h3:Be5 s m=1<;>by_cases h4:Be5 s m=2<;>simp [Bool.cond_eq_ite,h1,h2,h3,h4,hs]
    · by_cases h2:0<off
      · by_cases h3:Be5 s m=1<;>by_cases h4:Be5 s m=2<;>simp [Bool.cond_eq_ite,h1,h2,h3,h4,hs]
      · simp [Bool.cond_eq_ite,h1,h2,hs]
theorem Gy2 (x:Nat):Bc2 x=some (Gt8 x):=by
  unfold Bc2 Gt8
  simp only [Option.bind_some,Ah1]
  cases fgt x 0<;>cases flt x 0<;>rfl
theorem Gu7 (x:Nat):Bl8 x=some (Gt8 x):=by
  unfold Bl8 Gt8
  simp only [Option.bind_some,Ah1]
  cases h:flt x 0
  · cases fgt x 0<;>rfl
  · rw [Fr3 x h];rfl
theorem Fx5 (x:Nat):Ar9 x=some (Bm8 x):=by
  unfold Ar9 Bm8
  simp only [Option.bind_some,Ah1,Cn7]
theorem Gf9 {a b:Nat}:Au8 [a,b]=some (Bm8 a&&Bm8 b):=by
  have fin:∀ x:Nat,isNaN x=false→Bm8 x = !decide (Ab2 x=9218868437227405312):=fun x h1=>by
    rw [Ad0] at h1;simp at h1;unfold Bm8;rw [Bool.eq_iff_iff];simp;omega
  have nan:∀ x:Nat,isNaN x=true→Bm8 x=false:=fun x h1=>by rw [Ad0] at h1;simp at h1;simp [Bool.cond_eq_ite,Bm8];omega
  have nan_t:∀ x,Af3 x=some (isNaN x):=fun x=>by unfold Af3;rw [Bw0];simp
  have body:∀ (i:Nat) (x:Nat),[a,b][i]?=some x→Ai6 2 [a,b] (i:Int)=some (cond (Bm8 x) (.inl ((i+1:Nat):Int)) (.inr (.inr false))):=fun i x hx=>by
    have hi:i < [a,b].length:=by
      rcases Nat.lt_or_ge i [a,b].length with h | h
      · exact h
      · rw [List.getElem?_eq_none h] at hx;cases hx
    have hi2:i<2:=by simpa using hi
    unfold Ai6
    dsimp only
    rw [Aa6 (by simp;omega),Gq1 hi]
    have e : [a,b][i]=x:=by rw [List.getElem?_eq_getElem hi] at hx;exact Option.some.inj hx
    rw [e,Option.bind_some,nan_t,Option.bind_some]
    cases hn:isNaN x with
    | true=>rw [nan x hn];rfl
    | false=>
      rw [Ex4 hn,fin x hn]
      simp only [Bool.not_false,cT,Option.bind_some]
      cases decide (Ab2 x=9218868437227405312)
      · simp only [cF,Bool.not_false,cT]
        rw [wrU (by omega)]
      · rfl
  unfold Au8
  simp only [Option.bind_some]
  have b0:=body 0 a rfl
  have b1:=body 1 b rfl
  have b2:Ai6 2 [a,b] 2=some (.inr (.inl ())):=rfl
  show ((Ag0 (Ai6 2 [a,b]) FU ((0:Nat):Int):Option (Unit⊕Bool))).bind _=_
  cases ha:Bm8 a with
  | false=>
    rw [ha] at b0
    rw [Ab9 (fun i=>((i:Nat):Int)) 0 (by rw [Ae6];omega) (fun i hi=>by omega) b0]
    rfl
  | true=>
    rw [ha] at b0
    cases hb:Bm8 b with
    | false=>
      rw [hb] at b1
      rw [Ab9 (fun i=>((i:Nat):Int)) 1 (by rw [Ae6];omega) (fun i hi=>by
          have:i=0:=by omega
          subst this;exact b0) b1]
      rfl
    | true=>
      rw [hb] at b1
      rw [Ab9 (fun i=>((i:Nat):Int)) 2 (by rw [Ae6];omega) (fun i hi=>by
        rcases (by omega:i=0∨i=1) with h | h
        · subst h;exact b0
        · subst h;exact b1) b2]
      rfl
theorem Hh6 (m:Int):Bc0 m=some (if m=1 then 9223372036854775808 else 0):=by
  unfold Bc0
  have e:Ac0 (nf 0) (nf 13830554455654793216)=some 9223372036854775808:=by decide +kernel
  rw [e,Ah1]
  by_cases h:m=1<;>simp [Bool.cond_eq_ite,h]
theorem Db8 {x:Nat} (h:Bm8 x=true):isNaN x=false:=by
  unfold Bm8 at h;rw [Ad0];simp at h ⊢;omega
theorem Hg6 {a b:Nat} {m:Int} (h0:0≤m) (h3:m≤3):Bf9 a b m=some (nf (Ev9 a b m)):=by
  have hway:Bh4 m=some m:=by
    unfold Bh4
    rw [Aa6 (by simp;omega),Aa8 (by simp;omega)]
  unfold Bf9
  simp only [hway,Option.bind_some,Gf9]
  cases hf:Bm8 a&&Bm8 b with
  | false=>
    have hn : ¬ (Bm8 a=true∧Bm8 b=true):=by
      rintro ⟨q1,q2⟩
      rw [q1,q2] at hf;cases hf
    have e:Ev9 a b m=As2 a b:=by unfold Ev9;rw [if_neg hn]
    rw [e,Fw8];rfl
  | true=>
    have hf':Bm8 a=true∧Bm8 b=true:=by simpa using hf
    have ha:Ab2 a<9218868437227405312:=by simpa [Bm8] using hf'.1
    have hb':Ab2 b<9218868437227405312:=by simpa [Bm8] using hf'.2
    have hsn:=Cp8 ha hb'
    have hs:=Ac3 hsn
    have key:Ev9 a b m=if Ab2 (As2 a b)=0 then (if Ab2 a=0∧Ae3 a=Ae3 b then As2 a b else if m=1 then 9223372036854775808 else 0)
      else if Ab2 (As2 a b)=9218868437227405312 then At6 (As2 a b) 0 m
      else At6 (As2 a b) (Gt8 (Bn1 (if flt (Ab2 a) (Ab2 b) then a else b) (Bn1 (As2 a b) (if flt (Ab2 a) (Ab2 b) then b else a)))) m:=by
      unfold Ev9;rw [if_pos hf']
    simp only [Bool.not_true,cF,Ah1,Bj0,Bm5 (Db8 hf'.1),Bm5 (Db8 hf'.2),Option.bind_some,Hh6,Ex4 hsn,Gm5 hsn,Gg0,Gy2]
    by_cases hz:Ab2 (As2 a b)=0
    · rw [key,if_pos hz]
      by_cases z2:Ab2 a=0
      · by_cases hn:Ae3 a=Ae3 b
        · simp [Bool.cond_eq_ite,hz,z2,hn,hs]
        · by_cases hm:m=1
          · subst hm;simp [Bool.cond_eq_ite,hz,z2,hn];decide +kernel
          · simp [Bool.cond_eq_ite,hz,z2,hn,hm,Ah1]
      · by_cases hm:m=1
        · subst hm;simp [Bool.cond_eq_ite,hz,z2];decide +kernel
        · simp [Bool.cond_eq_ite,hz,z2,hm,Ah1]
    · rw [key,if_neg hz]
      by_cases hi:Ab2 (As2 a b)=9218868437227405312
      · simp [Bool.cond_eq_ite,hi]
      · have e1:nf (Ab2 a)=Ab2 a:=Ac3 (by rw [Ad0,Ap1];simp;omega)
        have e2:nf (Ab2 b)=Ab2 b:=Ac3 (by rw [Ad0,Ap1];simp;omega)
        rw [if_neg hi]
        simp only [hz,hi,e1,e2,decide_false,cF,Option.bind_some]
        cases hc:flt (Ab2 a) (Ab2 b)<;>simp
theorem Gi5 {s:Nat} (hi:Ab2 s=9218868437227405312) (m:Int):Bg0 s m=some (nf (At6 s 0 m)):=by
  have hx:isNaN s=false:=by rw [Ad0,hi];decide
  have hs:=Ac3 hx
  have hg:fgt s 0 = !Ae3 s:=by rw [Ch9];simp [Bool.cond_eq_ite,hi]
  have hlt:flt s 0=Ae3 s:=by rw [Eg4];simp [Bool.cond_eq_ite,hi]
  have em:Ab2 (nf 9218868437227405311)=9218868437227405311:=by decide +kernel
  unfold Bg0
  simp only [Ah1,Dr1 hx,Option.bind_some,hg,hlt,em]
  unfold At6
  rw [if_pos hi]
  cases hn:Ae3 s<;>by_cases h3:m=3<;>by_cases h1:m=1<;>by_cases h2:m=2<;>simp [Bool.cond_eq_ite,Be5,hn,h1,h2,h3,hs]<;>omega
theorem Hk3 {x:Nat} (hx:isNaN x=false):Bn4 x=some (nf (Bx4 x true)):=by
  have hm:Ab2 x≤9218868437227405312:=by rw [Ad0] at hx;simp at hx;omega
  unfold Bn4 Be2 Bj5 Ac4 Ab1
  rw [hx]
  simp only [cF,Option.bind_some,Ah1,Bj0]
  by_cases h0:Ab2 x=0
  · rw [Aa6 (by simp [Bool.cond_eq_ite,h0])]
    unfold Bx4
    rw [if_pos h0];rfl
  · have hg:fgt x 0 = !Ae3 x:=by rw [Ch9];simp [Bool.cond_eq_ite,h0,hm]
    rw [Aa8 (by simp [Bool.cond_eq_ite,h0]),hg]
    have hx0:0<x:=by
      rcases Nat.eq_zero_or_pos x with h | h
      · subst h;exact absurd (by decide:Ab2 0=0) h0
      · exact h
    have e1:(IntKind.u64.wrap ((x:Int)+1)).toNat=(x+1)%18446744073709551616:=by rw [← Hm1 (x+1)];rfl
    have e2:(IntKind.u64.wrap ((x:Int)-1)).toNat=(x+18446744073709551615)%18446744073709551616:=by
      have:((x:Int)-1)=((x-1:Nat):Int):=by omega
      rw [this,Hm1];omega
    unfold Bx4
    rw [if_neg h0]
    cases Ae3 x<;>simp [Bool.cond_eq_ite,e1,e2]
theorem Ge2 {s:Nat} (hm:Ab2 s<9218868437227405312) (hz:Ab2 s≠0) (hl:s<18446744073709551616) (off m:Int):Bl9 s off m=some (nf (At6 s off m)):=by
  have hx:isNaN s=false:=by rw [Ad0];simp;omega
  have hs:=Ac3 hx
  have hf0:feq s 0=false:=by rw [Bj0];simp [Bool.cond_eq_ite,hz]
  have hfn:isNaN (Bn0 s)=false:=by rw [Ad0,Av2];simp;omega
  have hup:isNaN (Bx4 (Bn0 s) true)=false:=Gc0 (by rw [Av2];omega) (by rw [Av2];omega) (Gc3 hl) true
  have down:Bl7 s=some (nf (Bx4 s false)):=by
    unfold Bl7
    simp only [Option.bind_some,Ac3 hfn,Hk3 hfn,Ac3 hup]
    rw [Fx6 hm hz hl]
  have key:At6 s off m=if (off<0∧Be5 s m=1)∨(0<off∧Be5 s m=2) then Bx4 s (decide (0<off)) else s:=by
    unfold At6;rw [if_neg (by omega)]
  unfold Bl9
  simp only [Bm5 hx,Option.bind_some,Ah1,hf0,down,Hk3 hx]
  rw [key]
  by_cases h1:off<0
  · have h2 : ¬ 0<off:=by omega
    by_cases m1:m=1
    · simp [Bool.cond_eq_ite,h1,h2,m1,Be5]
    · by_cases m3:m=3
      · cases hn:Ae3 s<;>simp [Bool.cond_eq_ite,h1,h2,m3,Be5,hn,hs]
      · simp [Bool.cond_eq_ite,h1,h2,m1,m3,Be5,hs]
  · by_cases h2:0<off
    · by_cases m2:m=2
      · simp [Bool.cond_eq_ite,h1,h2,m2,Be5]
      · by_cases m3:m=3
        · cases hn:Ae3 s<;>simp [Bool.cond_eq_ite,h1,h2,m3,Be5,hn,hs]
        · simp [Bool.cond_eq_ite,h1,h2,m2,m3,Be5,hs]
    · simp [Bool.cond_eq_ite,h1,h2,hs]
theorem Ga9 {z n:Bool} {b:Nat} (hb:isNaN b=false) {m:Int}:Bb9 z n b m=some (if z=true∧Ab2 b=0∧n=Ae3 b then b else if m=1 then 9223372036854775808 else 0):=by
  have e:Ac0 (nf 0) (nf 13830554455654793216)=some 9223372036854775808:=by decide +kernel
  rw [Ah1] at e
  unfold Bb9
  simp only [e,Ah1,Option.bind_some,Bj0,Bm5 hb]
  cases z
  · by_cases hm:m=1<;>simp [Bool.cond_eq_ite,hm]
  · by_cases h0:Ab2 b=0
    · by_cases hn:n=Ae3 b
      · simp [Bool.cond_eq_ite,h0,hn]
      · by_cases hm:m=1<;>simp [Bool.cond_eq_ite,h0,hn,hm]
    · by_cases hm:m=1<;>simp [Bool.cond_eq_ite,h0,hm]
theorem Hl0 {a b:Nat} {m:Int} (hbl:b<18446744073709551616):Bu2 a b m=some (nf (Ev9 a b m)):=by
  unfold Bu2
  simp only [Fx5,Option.bind_some]
  have raw : ¬ (Bm8 a=true∧Bm8 b=true)→some (As2 a b)=some (nf (Ev9 a b m)):=fun hn=>by
    have e:Ev9 a b m=As2 a b:=by unfold Ev9;rw [if_neg hn]
    rw [e,Fw8]
  cases hfa:Bm8 a with
  | false=>exact raw (by rw [hfa];simp)
  | true=>
    cases hfb:Bm8 b with
    | false=>exact raw (by rw [hfb];simp)
    | true=>
      have hf':Bm8 a=true∧Bm8 b=true:=⟨hfa,hfb⟩
      have ha:Ab2 a<9218868437227405312:=by simpa [Bm8] using hfa
      have hb':Ab2 b<9218868437227405312:=by simpa [Bm8] using hfb
      have hsn:=Cp8 ha hb'
      have hsl:=Fb3 ha hb'
      have hs:=Ac3 hsn
      have hle:Ab2 (As2 a b)≤9218868437227405312:=by rw [Ad0] at hsn;simp at hsn;omega
      have key:Ev9 a b m=if Ab2 (As2 a b)=0 then (if Ab2 a=0∧Ae3 a=Ae3 b then As2 a b else if m=1 then 9223372036854775808 else 0)
        else if Ab2 (As2 a b)=9218868437227405312 then At6 (As2 a b) 0 m
        else At6 (As2 a b) (Gt8 (Bn1 (if flt (Ab2 a) (Ab2 b) then a else b) (Bn1 (As2 a b) (if flt (Ab2 a) (Ab2 b) then b else a)))) m:=by
        unfold Ev9;rw [if_pos hf']
      simp only [Bool.not_true,Bool.not_false,cT,cF,Ah1,Bj0,Bm5 (Db8 hfa),Option.bind_some]
      cases hfs:Bm8 (As2 a b) with
      | false=>
        have hi:Ab2 (As2 a b)=9218868437227405312:=by simp [Bool.cond_eq_ite,Bm8] at hfs;omega
        simp only [Bool.not_false,cT,Gi5 hi,Option.bind_some]
        rw [key,if_neg (by omega),if_pos hi]
      | true=>
        have hi:Ab2 (As2 a b)<9218868437227405312:=by simpa [Bm8] using hfs
        simp only [Bool.not_true,cF]
        by_cases hz:Ab2 (As2 a b)=0
        · rw [Aa6 (by simp [Bool.cond_eq_ite,hz]),Ga9 (Db8 hfb),Option.bind_some,key,if_pos hz]
          by_cases h2:Ab2 a=0∧Ae3 a=Ae3 b
          · have hsum:=(Dz2 ha hb').1 hz
            have hb0:Ab2 b=0:=by
              rw [(Bc4 a).2 h2.1,Int.zero_add] at hsum
              exact (Bc4 b).1 hsum
            rw [if_pos h2,if_pos ⟨by simp [Bool.cond_eq_ite,h2.1],hb0,h2.2⟩,Et1 h2.1 hb0 hbl h2.2,Ac3 (Db8 hfb)]
          · rw [if_neg h2,if_neg (fun ⟨q1,q2,q3⟩=>h2 ⟨by simpa using q1,q3⟩)]
            by_cases hm:m=1
            · subst hm;decide +kernel
            · simp [Bool.cond_eq_ite,hm,Ah1]
        · rw [Aa8 (by simp [Bool.cond_eq_ite,hz]),key,if_neg hz,if_neg (by omega)]
          have e1:nf (Ab2 a)=Ab2 a:=Ac3 (by rw [Ad0,Ap1];simp;omega)
          have e2:nf (Ab2 b)=Ab2 b:=Ac3 (by rw [Ad0,Ap1];simp;omega)
          simp only [Gg0,e1,e2,Option.bind_some,Gu7,Ge2 hi hz hsl]
          cases hc:flt (Ab2 a) (Ab2 b)<;>simp [Bool.cond_eq_ite,Ge2 hi hz hsl]
end Go.Eng
