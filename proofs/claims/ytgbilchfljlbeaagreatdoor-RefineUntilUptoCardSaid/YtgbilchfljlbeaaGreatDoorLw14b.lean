
/-
  RefineSteps, the plain law: one step is what the document says. Its condition: floats that are floats.
-/
import Derived.Test.YtgbilchfljlbeaaGreatDoorLe
import Derived.Test.YtgbilchfljlbeaaGreatDoorScl3
import Derived.Test.YtgbilchfljlbeaaGreatDoorPf2A
import Derived.Test.YtgbilchfljlbeaaGreatDoorPv2
import Derived.Test.YtgbilchfljlbeaaGreatDoorLw14k
import Derived.Test.YtgbilchfljlbeaaGreatDoorWk
import Derived.Test.YtgbilchfljlbeaaGreatDoorLw0
import Derived.Test.YtgbilchfljlbeaaGreatDoorRow4
set_option linter.all false
set_option maxRecDepth 100000
set_option maxHeartbeats 400000
namespace Go.Eng
open Go
theorem Fi7 (r c:Int) (A:List Nat) (q:Int) (l d:List Nat):Bl0 r c A q l d=Af0 r c A q l d:=rfl
theorem Fr6 (r c:Int) (A:List Nat) (q:Int) (l d:List Nat):Af0 r c A q l d=some false∨(Af0 r c A q l d=some true∧r=q∧c=q):=by
  unfold Af0
  rw [Ed1,Option.bind_some]
  cases Cb3 r c A.length with
  | false=>exact .inl rfl
  | true=>
    rw [cT]
    rcases Bg8 q l d with ⟨h,_⟩ | h
    · rw [h,Option.bind_some,cT]
      by_cases c1:r=q
      · rw [Aa6 (by simpa using c1)]
        by_cases c2:c=q
        · exact .inr ⟨by rw [beq_iff_eq.2 c2],c1,c2⟩
        · exact .inl (by rw [beq_eq_false_iff_ne.2 c2])
      · rw [Aa8 (by simpa using c1)];exact .inl rfl
    · rw [h];exact .inl rfl
theorem Fd3 (r c:Int) (A X b:List Nat):(Ay5 r c A X b).1.length≤48∧((Ay5 r c A X b).2=0→Fn7 r c A X b=true∧((Ay5 r c A X b).1.length:Int)=r):=by
  unfold Ay5
  by_cases h:Fn7 r c A X b=true
  · obtain ⟨m,n,rfl,rfl,h1,_⟩:=Bx2 h
    rw [if_pos h]
    split
    · split
      · refine ⟨by simp only [Bs2,Int.toNat_natCast];exact h1,fun _=>⟨h,by simp only [Bs2,Int.toNat_natCast]⟩⟩
      · exact ⟨by simp,fun h=>by cases h⟩
    · exact ⟨by simp,fun h=>by cases h⟩
  · rw [if_neg h]
    exact ⟨by simp,fun h=>by cases h⟩
theorem Gb9 (x y:Nat):As2 x y<18446744073709551616:=by
  unfold As2 Ieee.Format.add
  cases (Ieee.double.read x).sum (Ieee.double.read y) with
  | none=>decide
  | some d=>
    show Ieee.double.write d<_
    cases d with
    | number s m e=>exact Dw2 s m e
    | infinity s=>exact Bf2 s _ (by decide)
    | nan s f=>exact Bf2 s _ (by
        have:f%Ieee.double.binade<4503599627370496:=Nat.mod_lt _ (by decide)
        have e:Ieee.double.infRung=9218868437227405312:=by decide
        omega)
theorem Gm8 {X y:List Nat} (hx:X.length≤4096) (hy:y.length=X.length):Ag0 (At0 X y) FU (0,[])=some (Fq2 As2 X y):=by
  have:=Ab9 (b:=At0 X y) (fun i=>(((i:Nat):Int),(List.range i).map fun i=>As2 (X.getD i 0) (y.getD i 0))) (o:=Fq2 As2 X y) X.length (by rw [Ae6];omega) (fun i hi=>by
    unfold At0
    simp only [Option.bind_some]
    rw [Aa6 (by rw [decide_eq_true_eq];omega),Ab8 0 hi,Option.bind_some,Ab8 0 (by omega),Option.bind_some,Bg5 (by simp;omega),Option.bind_some,wrU (by omega),Ap6 (G:=fun i=>As2 (X.getD i 0) (y.getD i 0))]) (by
    unfold At0
    simp only [Option.bind_some]
    rw [Aa8 (by rw [decide_eq_false_iff_not];omega)];rfl)
  exact this
theorem Ft5 (r c:Int) {A X b:List Nat} (q:Int) (l d:List Nat) (kA:A.length≤1048576) (kX:X.length≤1048576) (kb:b.length≤1048576) (wA:∀ p∈A,p<18446744073709551616) (wX:∀ p∈X,p<18446744073709551616) (wb:∀ p∈b,p<18446744073709551616) :
    ∃ x e,Al7 r c A q l d X b=some (x,e)∧Bl5 r c A q l d X b=some (x,e)∧x.length≤48∧(e=0→Aw8 x=true∧x.length=X.length∧∀ p∈x,p<18446744073709551616):=by
  unfold Al7 Bl5
  rw [Fi8,Gd3,Fi7]
  simp only [Option.bind_some]
  cases hf:Fn7 r c A X b with
  | false=>exact ⟨[],4,rfl,rfl,by simp,fun h=>by cases h⟩
  | true=>
    simp only [Bool.not_true,Bool.not_false,cT,cF]
    rcases Fr6 r c A q l d with h | ⟨h,hr,hc⟩
    · rw [h];exact ⟨[],4,rfl,rfl,by simp,fun h=>by cases h⟩
    · rw [h]
      simp only [Option.bind_some,Bool.not_true,cF]
      rw [Ed5 r c kA kX kb,Fc3 r c kA kX kb wA wX wb]
      obtain ⟨m,n,e1,e2,m48,n48,hA,hmn,hX,hb⟩:=Bx2 hf
      obtain ⟨L1,L2⟩:=Fd3 r c A X b
      generalize Ay5 r c A X b=p at *
      obtain ⟨t4,t5⟩:=p
      simp only [Option.bind_some]
      by_cases h5:t5=0
      · obtain ⟨_,L3⟩:=L2 h5
        rw [Aa8 (by simpa using h5),Aa8 (by simpa using h5)]
        obtain ⟨s1,y,e,s2,s3,s4⟩:=Ds1 q l d (b:=t4)
        rw [← s1,s2]
        simp only [Option.bind_some]
        by_cases he:e=0
        · have hy:y.length=X.length:=by
            have:=s4 he
            have L3':((t4.length:Nat):Int)=r:=L3
            omega
          rw [Aa8 (by simpa using he),Aa8 (by simpa using he),Gq4]
          have fv:Go6 X y=0:=by
            unfold Go6
            rw [if_pos hy.symm,if_neg (by omega)]
          unfold Fl9
          rw [fv,if_pos rfl,show List.map nf []=([]:List Nat) from rfl,Gm8 (by omega) hy]
          simp only [Option.bind_some]
          have lz:(Fq2 As2 X y).length=X.length:=by simp [Fq2]
          rw [Co1 (by simp) (by simp [lz];omega),Bu7 (by omega)]
          have e1 : [Fq2 As2 X y].all Aw8=Aw8 (Fq2 As2 X y):=by simp
          rw [e1]
          simp only [Option.bind_some]
          cases hz:Aw8 (Fq2 As2 X y) with
          | false=>exact ⟨[],6,rfl,rfl,by simp,fun h=>by cases h⟩
          | true=>exact ⟨_,0,rfl,rfl,by omega,fun _=>⟨hz,lz,fun p hp=>by
            unfold Fq2 at hp
            obtain ⟨i,_,rfl⟩:=List.mem_map.1 hp
            exact Gb9 _ _⟩⟩
        · rw [Aa6 (by simpa using he),Aa6 (by simpa using he)]
          exact ⟨[],e,rfl,rfl,by simp,fun h=>absurd h he⟩
      · rw [Aa6 (by simpa using h5),Aa6 (by simpa using h5)]
        exact ⟨[],t5,rfl,rfl,by simp,fun h=>absurd h h5⟩
section
variable {N:Nums} {P:Program} (H:AllOk N P)
include H
end
end Go.Eng
