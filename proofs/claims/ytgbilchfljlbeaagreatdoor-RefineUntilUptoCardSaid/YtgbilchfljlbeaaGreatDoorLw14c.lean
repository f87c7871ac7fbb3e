/-
  RefineUntil, the plain law: going on as long as it helps is what the document says. Its condition: floats that are floats.
-/
import Derived.Test.YtgbilchfljlbeaaGreatDoorSolX
import Derived.Test.YtgbilchfljlbeaaGreatDoorLw14b
set_option linter.all false
set_option maxRecDepth 100000
set_option maxHeartbeats 400000
namespace Go.Eng
open Go
theorem Gj8 {a:List Nat} (ha:a.length≤1048576):Aw1 a=some (Cd7 a a.length):=by
  unfold Aw1
  have:=Ab9 (b:=As3 a) (fun i=>(Cd7 a i,((i:Nat):Int))) (o:=Cd7 a a.length) a.length (by rw [Ae6];omega) (fun i hi=>by
    unfold As3
    simp only [Option.bind_some]
    rw [Aa6 (by simp;omega),Ab8 0 hi]
    simp only [Option.bind_some,Gg0,Hl0 (m:=2) (Gp1 _)]
    rw [wrU (by omega)];rfl) (by
    unfold As3
    simp only [Option.bind_some]
    rw [Aa8 (by simp)])
  have this:Ag0 (As3 a) FU (0,0)=some (Cd7 a a.length):=this
  rw [Ah1,this];rfl
section
variable (r c:Int) {A:List Nat} (q:Int) (l d:List Nat) {b:List Nat}
theorem Gt1 (x:List Nat):Aw1 (Ay5 r c A x b).1=some (nvx r c A b x):=Gj8 (by have:=(Cm6 r c A b x).1;omega)
theorem Df8 (kA:A.length≤1048576) (kb:b.length≤1048576) (wA:∀ p∈A,p<18446744073709551616) (wb:∀ p∈b,p<18446744073709551616):∀ k j x fuel,k<fuel→j+k≤64→x.length≤1048576→(∀ p∈x,p<18446744073709551616) →
    Ag0 (Am2 ((j+k:Nat):Int) r c A q l d b) fuel (nvx r c A b x,(j:Int),x)=some (((j+(goU r c A q l d b k x).2:Nat):Int),(goU r c A q l d b k x).1)
  | 0,j,x,fuel,hf,hj,hx,wx=>by
    obtain ⟨m,rfl⟩:∃ m,fuel=m+1:=⟨fuel-1,by omega⟩
    rw [Aq9]
    unfold Am2
    dsimp only
    rw [Aa8 (by rw [decide_eq_false_iff_not];omega)]
    rfl
  | k+1,j,x,fuel,hf,hj,hx,wx=>by
    obtain ⟨m,rfl⟩:∃ m,fuel=m+1:=⟨fuel-1,by omega⟩
    obtain ⟨y,e,s0,s1,s2,s3⟩:=Ft5 r c q l d (A:=A) (X:=x) (b:=b) kA hx kb wA wx wb
    have e1:Di5 r c A q l d b x=(y,e):=by unfold Di5;rw [s0];rfl
    have eb:Am2 ((j+(k+1):Nat):Int) r c A q l d b (nvx r c A b x,(j:Int),x)=if e=0∧(Ay5 r c A y b).2=0∧nvx r c A b y<nvx r c A b x then some (.inl (nvx r c A b y,((j+1:Nat):Int),y)) else some (.inr ((j:Int),x)):=by
      unfold Am2
      dsimp only
      rw [Aa6 (by rw [decide_eq_true_eq];omega),s1,Option.bind_some]
      dsimp only
      by_cases he:e=0
      · rw [Aa8 (by simpa using he),Fc3 r c kA (by omega) kb wA (s3 he).2.2 wb,Option.bind_some]
        by_cases hl:(Ay5 r c A y b).2=0
        · rw [Aa6 (by simpa using hl),Gt1]
          simp only [Option.bind_some]
          rw [Hg3 (Ff1 r c A b y) (Ff1 r c A b x),wrU (by omega)]
          by_cases hn:nvx r c A b y<nvx r c A b x
          · rw [decide_eq_true hn,if_pos ⟨he,hl,hn⟩];rfl
          · rw [decide_eq_false hn,if_neg (fun h=>hn h.2.2)];rfl
        · rw [Aa8 (by simpa using hl),if_neg (fun h=>hl h.2.1)]
      · rw [Aa6 (by simpa using he),if_neg (fun h=>he h.1)]
    rw [Aq9,eb]
    unfold goU
    rw [e1]
    dsimp only
    by_cases hc:e=0∧(Ay5 r c A y b).2=0∧nvx r c A b y<nvx r c A b x
    · rw [if_pos hc,if_pos hc]
      dsimp only
      have ih:=Df8 kA kb wA wb k (j+1) y m (by omega) (by omega) (by omega) (s3 hc.1).2.2
      rw [show j+(k+1)=j+1+k by omega,ih,show j+1+(goU r c A q l d b k y).2=j+((goU r c A q l d b k y).2+1) by omega]
    · rw [if_neg hc,if_neg hc];rfl
theorem Gk8 (kA:A.length≤1048576) (kb:b.length≤1048576) (wA:∀ p∈A,p<18446744073709551616) (wb:∀ p∈b,p<18446744073709551616) {x:List Nat} {e:Int} (h1:Ar7 q l d b=some (x,e)) (h2:x.length≤48) (h3:∀ p∈x,p<18446744073709551616) (most:Int) :
    Bh3 r c A q l d b most=some (Dg1 r c A q l d b x e most):=by
  unfold Bh3 Dg1
  rw [Fi7]
  by_cases c0:most<0
  · rw [decide_eq_true c0,if_pos (.inl c0)];rfl
  · by_cases c1:64<most
    · rw [decide_eq_false c0,if_pos (.inr c1),Bool.not_false,cT,decide_eq_true (show most>64 from c1)];rfl
    · rw [decide_eq_false c0,if_neg (by omega),Bool.not_false,cT,decide_eq_false (show ¬ most>64 from c1),Option.bind_some,cF]
      rcases Dg3 r c A q l d with hf | hf
      · rw [hf,if_pos (by simp)];rfl
      · rw [hf,Option.bind_some,Bool.not_true,Bool.not_false,cT,Option.bind_some,Option.bind_some]
        by_cases hb:((b.length:Nat):Int)=r
        · rw [Aa8 (by simpa using hb),if_neg (by simp [hb]),Bu7 (by omega),Bu7 (by omega)]
          cases fA:Aw8 A with
          | false=>rw [if_pos (by simp)];rfl
          | true=>
          cases fb:Aw8 b with
          | false=>rw [if_pos (by simp)];rfl
          | true=>
            rw [if_neg (by simp)]
            simp only [Option.bind_some,Bool.not_true,Bool.not_false,cT,cF]
            rw [h1,Option.bind_some]
            dsimp only
            by_cases he:e=0
            · rw [Aa8 (by simpa using he),if_neg (by simp [he]),Bu7 (by omega),Option.bind_some]
              cases hx:Aw8 x with
              | false=>rw [if_pos (by simp)];rfl
              | true=>
                rw [Bool.not_true,cF,if_neg (by simp),Fc3 r c kA (by omega) kb wA h3 wb,Option.bind_some]
                by_cases hl:(Ay5 r c A x b).2=0
                · rw [Aa8 (by simpa using hl),if_neg (by simpa using hl),Gt1,Option.bind_some]
                  have hm:((0+most.toNat:Nat):Int)=most:=by omega
                  have:=Df8 r c q l d kA kb wA wb most.toNat 0 x FU (by rw [Ae6];omega) (by omega) (by omega) h3
                  rw [hm] at this
                  have this:Ag0 (Am2 most r c A q l d b) FU (nvx r c A b x,0,x)=_:=this
                  rw [this,Option.bind_some,Nat.zero_add]
                · rw [Aa6 (by simpa using hl),if_pos (by simpa using hl)];rfl
            · rw [Aa6 (by simpa using he),if_pos (by simpa using he)];rfl
        · rw [Aa6 (by simpa using hb),if_pos (by simp [hb])];rfl
end
theorem Fw5 (r c:Int) {A:List Nat} (q:Int) (l d:List Nat) {b:List Nat} (kA:A.length≤1048576) (kb:b.length≤1048576):∀ k x,x.length≤48→(∀ p∈x,p<18446744073709551616)→(goU r c A q l d b k x).1.length≤48
  | 0,_,h,_=>h
  | k+1,x,h,w=>by
    obtain ⟨y,e,s1,s2,s3⟩:=Gt4 r c q l d kA kb x (by omega) w
    have e1:Di5 r c A q l d b x=(y,e):=by unfold Di5;rw [s1];rfl
    unfold goU
    rw [e1]
    split
    · rename_i hc
      exact Fw5 r c q l d kA kb k y s2 (s3 hc.1)
    · exact h
theorem Fl5 (r c:Int) {A:List Nat} (q:Int) (l d:List Nat) {b x:List Nat} (e most:Int) (kA:A.length≤1048576) (kb:b.length≤1048576) (hx:x.length≤48) (w:∀ p∈x,p<18446744073709551616):(Dg1 r c A q l d b x e most).1.length≤48:=by
  unfold Dg1
  repeat' split
  all_goals first | exact Nat.zero_le _ | exact Fw5 r c q l d kA kb _ _ hx w
theorem Gz7 {r c q:Int} {A l d X b:List Nat} (most:Int) (kl:l.length≤1048576) (kd:d.length≤1048576) (wA:∀ p∈A,p<18446744073709551616) (wb:∀ p∈b,p<18446744073709551616):As7 r c A q l d X b most=some true:=by
  unfold As7
  rw [Gw7]
  simp only [Option.bind_some,Bool.not_true,cF,Gu0]
  by_cases gA:100<A.length
  · rw [decide_eq_true gA];rfl
  · rw [decide_eq_false gA,Bool.not_false,cT]
    by_cases gb:100<b.length
    · rw [decide_eq_true (show ((b.length:Nat):Int)>100 by omega)];rfl
    · rw [decide_eq_false (show ¬ ((b.length:Nat):Int)>100 by omega),Option.bind_some,cF]
      unfold Ba9 Bb0
      rw [lentR' (by omega),lentR' (by omega),lentR' (by omega),lentR' (by omega)]
      simp only [Option.bind_some]
      obtain ⟨x,e,s1,s2,s3,s4⟩:=Fy8 q l d b
      have kA:A.length≤1048576:=by omega
      have kb:b.length≤1048576:=by omega
      have s5:Ar7 q l d b=some (x,e):=by rw [← (Ds1 q l d (b:=b)).eq];exact s1
      rw [Gz8 r c A q l d b kA kb (Gt4 r c q l d kA kb) s1 s2 s4 most,Gk8 r c q l d kA kb wA wb s5 s2 s4 most]
      have hu:=Fl5 r c (A:=A) q l d (b:=b) e most kA kb s2 s4
      generalize Dg1 r c A q l d b x e most=u at *
      obtain ⟨u0,u1,u2⟩:=u
      simp only [Option.bind_some]
      rw [keptM' (by omega)]
      simp only [Option.bind_some,cT]
      rw [keptF' kl kd]
      simp only [Option.bind_some,cT]
      rw [keptR' (by omega)]
      simp only [Option.bind_some,cT,beq_self_eq_true]
      have hu':u0.length≤48:=hu
      rw [Bo1 (by omega),beq_self_eq_true];rfl
section
variable {N:Nums} {P:Program} (H:AllOk N P)
include H
theorem Ge4 {r c q most:Int} {sa sl sd sx sb:Option Addr} {na ma nl ml nd md nx mx nb mb:Nat} {la ll ld lx lb:List Nat} {w:World} (hA:Reals w sa na ma la) (hL:Reals w sl nl ml ll) (hD:Reals w sd nd md ld) (hX:Reals w sx nx mx lx) (hB:Reals w sb nb mb lb)
    (kl:nl≤1048576) (kd:nd≤1048576) (wA:∀ p∈la,p<18446744073709551616) (wB:∀ p∈lb,p<18446744073709551616) (hG:Bx7 N.Im4 w) :
    Aa1 P N.Hv0 #[.agg #[.int .i64 r,.int .i64 c,.slice sa na ma,.int .i64 q,.slice sl nl ml,.slice sd nd md,.slice sx nx mx,.slice sb nb mb],.int .i64 most] w fun v w'=>v = .bool true∧∃ M,St w w' M:=by
  have hS:=((((((Ho.start w).arg Cm9 hG).arg (Ao1 rfl Cm9) (.ofReals hB)).arg (Ao1 rfl (Ao1 rfl Cm9)) (.ofReals hX)).arg (Ao1 rfl (Ao1 rfl (Ao1 rfl Cm9))) (.ofReals hD)).arg (Ao1 rfl (Ao1 rfl (Ao1 rfl (Ao1 rfl Cm9)))) (.ofReals hL)).arg (Ao1 rfl (Ao1 rfl (Ao1 rfl (Ao1 rfl (Ao1 rfl Cm9))))) (.ofReals hA)
  exact Cl9 H hS (Ent.rd mp0) (Ent.rd mp1) (Ent.rd mp2) (Ent.rd mp3) (Ent.rd mp4) (Ent.rd mp5) (Gz7 most (by rw [List.length_map,hL.len];exact kl) (by rw [List.length_map,hD.len];exact kd) (Fe4 wA) (Fe4 wB)) fun w1 h=>⟨rfl,h.some_old⟩
end
end Go.Eng
