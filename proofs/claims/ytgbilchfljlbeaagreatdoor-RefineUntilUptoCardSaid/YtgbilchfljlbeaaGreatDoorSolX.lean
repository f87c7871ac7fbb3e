/-
  The program's Until on the plain side: it goes on as long as the norm of what is left falls. No condition.
-/
import Derived.Test.YtgbilchfljlbeaaGreatDoorLe
import Derived.Test.YtgbilchfljlbeaaGreatDoorPf2A
import Derived.Test.YtgbilchfljlbeaaGreatDoorPv2
import Derived.Test.YtgbilchfljlbeaaGreatDoorPmR
import Derived.Test.YtgbilchfljlbeaaGreatDoorScl3
set_option linter.all false
set_option maxRecDepth 100000
set_option maxHeartbeats 400000
namespace Go.Eng
open Go
theorem Hg8 {x y:Nat} (hx:Ao9 x) (hy:Ao9 y):fgt x y=decide (y<x):=by
  unfold fgt
  rw [Bw4 hx hy]
  rcases Nat.lt_trichotomy x y with c | c | c
  · rw [Nat.compare_eq_lt.2 c,decide_eq_false (by omega)];rfl
  · rw [Nat.compare_eq_eq.2 c,decide_eq_false (by omega)];rfl
  · rw [Nat.compare_eq_gt.2 c,decide_eq_true c];rfl
theorem Hg3 {x y:Nat} (hx:Ao9 x) (hy:Ao9 y):flt x y=decide (x<y):=by
  unfold flt
  rw [Bw4 hx hy]
  rcases Nat.lt_trichotomy x y with c | c | c
  · rw [Nat.compare_eq_lt.2 c,decide_eq_true c];rfl
  · rw [Nat.compare_eq_eq.2 c,decide_eq_false (by omega)];rfl
  · rw [Nat.compare_eq_gt.2 c,decide_eq_false (by omega)];rfl
theorem Hl5 {x y:Nat} (hx:Ao9 x) (hy:Ao9 y):feq x y=decide (x=y):=by
  unfold feq
  rw [Bw4 hx hy]
  rcases Nat.lt_trichotomy x y with c | c | c
  · rw [Nat.compare_eq_lt.2 c,decide_eq_false (by omega)];rfl
  · rw [Nat.compare_eq_eq.2 c,decide_eq_true c];rfl
  · rw [Nat.compare_eq_gt.2 c,decide_eq_false (by omega)];rfl
theorem Hd4 {x y:Nat} (hx:Ao9 x) (hy:Ao9 y):(fgt x y||feq x y) = !decide (x<y):=by
  rw [Hg8 hx hy,Hl5 hx hy,Bool.eq_iff_iff]
  simp;omega
def Cd7 (a:List Nat):Nat→Nat
  | 0=>0
  | i+1=>nf (Ev9 (Cd7 a i) (nf (Ab2 (a.getD i 0))) 2)
theorem Gp1 (x:Nat):nf (Ab2 x)<18446744073709551616:=by
  have:=Bs0 x
  unfold nf
  cases isNaN (Ab2 x)
  · show Ab2 x<_;omega
  · show Cx5<_;decide
theorem Ha4 {a:List Nat} (ha:a.length≤1048576):Ak7 a=some (Cd7 a a.length):=by
  unfold Ak7
  simp only [Option.bind_some]
  have:=Ab9 (b:=Aj9 ((a.length:Nat):Int) a) (fun i=>(Cd7 a i,((i:Nat):Int))) (o:=Cd7 a a.length) a.length (by rw [Ae6];omega) (fun i hi=>by
    unfold Aj9
    dsimp only
    rw [Aa6 (by simp;omega),Ab8 0 hi]
    simp only [Option.bind_some,Gg0,Hg6 (m:=2) (by decide) (by decide)]
    rw [wrU (by omega)];rfl) (by
    unfold Aj9
    dsimp only
    rw [Aa8 (by simp)])
  have this:Ag0 (Aj9 ((a.length:Nat):Int) a) FU (0,0)=some (Cd7 a a.length):=this
  rw [Ah1,this];rfl
theorem Gg2 {a:List Nat} (h:Aw8 a=true):∀ i,i≤a.length→Ao9 (Cd7 a i)
  | 0,_=>by unfold Ao9 Cd7;omega
  | i+1,hi=>by
    have h1:=At7 h (show i<a.length by omega)
    have e:Cd7 a (i+1)=nf (Ev9 (Cd7 a i) (Ab2 (a.getD i 0)) 2):=by
      show nf (Ev9 (Cd7 a i) (nf (Ab2 (a.getD i 0))) 2)=_
      rw [Bz4 (x:=Ab2 (a.getD i 0)) (by rw [Ap1];omega)]
    have key:=Fw9 (Gg2 h i (by omega)) (b:=Ab2 (a.getD i 0)) (by rw [Ap1];exact h1) (Gk5 _)
    rw [e,Ac3 (Gn6 key)]
    exact key
section
variable (r c:Int) (A:List Nat) (q:Int) (l d b:List Nat)
def nvx (x:List Nat):Nat:=Cd7 (Ay5 r c A x b).1 (Ay5 r c A x b).1.length
theorem Cm6 (x:List Nat):(Ay5 r c A x b).1.length≤48∧Aw8 (Ay5 r c A x b).1=true:=by
  unfold Ay5
  by_cases h:Fn7 r c A x b=true
  · obtain ⟨m,n,rfl,rfl,h1,_⟩:=Bx2 h
    rw [if_pos h]
    split
    · split
      · rename_i h3
        exact ⟨by simp only [Bs2,Int.toNat_natCast];exact h1,h3⟩
      · exact ⟨by simp,rfl⟩
    · exact ⟨by simp,rfl⟩
  · rw [if_neg h]
    exact ⟨by simp,rfl⟩
theorem Ff1 (x:List Nat):Ao9 (nvx r c A b x):=Gg2 (Cm6 r c A b x).2 _ (Nat.le_refl _)
theorem He7 (x:List Nat):Ak7 (Ay5 r c A x b).1=some (nvx r c A b x):=Ha4 (by have:=(Cm6 r c A b x).1;omega)
def Di5 (x:List Nat):List Nat×Int:=(Al7 r c A q l d x b).getD ([],0)
def goU:Nat→List Nat→List Nat×Nat
  | 0,x=>(x,0)
  | k+1,x=>
    if (Di5 r c A q l d b x).2=0∧(Ay5 r c A (Di5 r c A q l d b x).1 b).2=0∧nvx r c A b (Di5 r c A q l d b x).1<nvx r c A b x then
      ((goU k (Di5 r c A q l d b x).1).1,(goU k (Di5 r c A q l d b x).1).2+1)
    else (x,0)
def Gy8:Prop:=∀ x:List Nat,x.length≤1048576→(∀ p∈x,p<18446744073709551616)→∃ y e,Al7 r c A q l d x b=some (y,e)∧y.length≤48∧(e=0→∀ p∈y,p<18446744073709551616)
theorem Ds4 (kA:A.length≤1048576) (kb:b.length≤1048576) (hs:Gy8 r c A q l d b):∀ k j x fuel,k<fuel→j+k≤64→x.length≤1048576→(∀ p∈x,p<18446744073709551616) →
    Ag0 (Ag5 ((j+k:Nat):Int) r c A q l d b) fuel (nvx r c A b x,(j:Int),x)=some (if (goU r c A q l d b k x).2=k then .inl (goU r c A q l d b k x).1 else .inr ((goU r c A q l d b k x).1,((j+(goU r c A q l d b k x).2:Nat):Int),0))
  | 0,j,x,fuel,hf,hj,hx,wx=>by
    obtain ⟨m,rfl⟩:∃ m,fuel=m+1:=⟨fuel-1,by omega⟩
    rw [Aq9]
    unfold Ag5
    dsimp only
    rw [Aa8 (by rw [decide_eq_false_iff_not];omega)]
    rfl
  | k+1,j,x,fuel,hf,hj,hx,wx=>by
    obtain ⟨m,rfl⟩:∃ m,fuel=m+1:=⟨fuel-1,by omega⟩
    obtain ⟨y,e,s1,s2,s3⟩:=hs x hx wx
    have e1:Di5 r c A q l d b x=(y,e):=by unfold Di5;rw [s1];rfl
    have eb:Ag5 ((j+(k+1):Nat):Int) r c A q l d b (nvx r c A b x,(j:Int),x)=if e=0∧(Ay5 r c A y b).2=0∧nvx r c A b y<nvx r c A b x then some (.inl (nvx r c A b y,((j+1:Nat):Int),y)) else some (.inr (.inr (x,(j:Int),0))):=by
      unfold Ag5
      dsimp only
      rw [Aa6 (by rw [decide_eq_true_eq];omega),s1,Option.bind_some]
      dsimp only
      by_cases he:e=0
      · rw [Aa8 (by simpa using he),Ed5 r c kA (by omega) kb,Option.bind_some]
        by_cases hl:(Ay5 r c A y b).2=0
        · rw [Aa6 (by simpa using hl),He7]
          simp only [Option.bind_some]
          rw [Hd4 (Ff1 r c A b y) (Ff1 r c A b x),wrU (by omega)]
          by_cases hn:nvx r c A b y<nvx r c A b x
          · rw [decide_eq_true hn,if_pos ⟨he,hl,hn⟩];rfl
          · rw [decide_eq_false hn,if_neg (fun h=>hn h.2.2)];rfl
        · rw [Aa8 (by simpa using hl),if_neg (fun h=>hl h.2.1)]
      · rw [Aa6 (by simpa using he),if_neg (fun h=>he h.1)]
    rw [Aq9,eb]
    unfold goU
    rw [e1]
    dsimp only
    by_cases hc:e=0∧(Ay5 r c A y b).2=0∧nvx r c A b y<nvx r c A b x
    · rw [if_pos hc,if_pos hc]
      dsimp only
      have ih:=Ds4 kA kb hs k (j+1) y m (by omega) (by omega) (by omega) (s3 hc.1)
      rw [show j+(k+1)=j+1+k by omega,ih]
      by_cases hk:(goU r c A q l d b k y).2=k
      · rw [if_pos hk,if_pos (by omega)]
      · rw [if_neg hk,if_neg (by omega),show j+1+(goU r c A q l d b k y).2=j+((goU r c A q l d b k y).2+1) by omega]
    · rw [if_neg hc,if_neg hc]
      dsimp only
      rw [if_neg (by omega)];rfl
def Dg1 (x:List Nat) (e:Int) (most:Int):List Nat×Int×Int:=
  if most<0∨64<most then ([],0,2)
  else if ¬ (Af0 r c A q l d=some true∧((b.length:Nat):Int)=r) then ([],0,4)
  else if ¬ (Aw8 A&&Aw8 b)=true then ([],0,5)
  else if e≠0 then ([],0,e)
  else if ¬ Aw8 x=true then ([],0,6)
  else if (Ay5 r c A x b).2≠0 then ([],0,(Ay5 r c A x b).2)
  else ((goU r c A q l d b most.toNat x).1,(((goU r c A q l d b most.toNat x).2:Nat):Int),0)
theorem Dg3:Af0 r c A q l d=some false∨Af0 r c A q l d=some true:=by
  unfold Af0
  rw [Ed1,Option.bind_some]
  cases Cb3 r c A.length with
  | false=>exact .inl rfl
  | true=>
    rw [cT]
    rcases Bg8 q l d with ⟨h,_⟩ | h
    · rw [h,Option.bind_some,cT]
      cases r==q
      · exact .inl rfl
      · cases hc:c==q
        · exact .inl (by simp [hc])
        · exact .inr (by simp [hc])
    · rw [h];exact .inl rfl
theorem Gz8 (kA:A.length≤1048576) (kb:b.length≤1048576) (hs:Gy8 r c A q l d b) {x:List Nat} {e:Int} (h1:Ah4 q l d b=some (x,e)) (h2:x.length≤48) (h3:∀ p∈x,p<18446744073709551616) (most:Int) :
    Ap9 r c A q l d b most=some (Dg1 r c A q l d b x e most):=by
  unfold Ap9 Dg1
  by_cases c0:most<0
  · rw [decide_eq_true c0,if_pos (.inl c0)];rfl
  · by_cases c1:64<most
    · rw [decide_eq_false c0,if_pos (.inr c1),Bool.not_false,cT,decide_eq_true (show most>64 from c1)];rfl
    · rw [decide_eq_false c0,if_neg (by omega),Bool.not_false,cT,decide_eq_false (show ¬ most>64 from c1),Option.bind_some,cF]
      rcases Dg3 r c A q l d with hf | hf
      · rw [hf,if_pos (by simp)];rfl
      · rw [hf,Option.bind_some,Bool.not_true,Bool.not_false,cT,Option.bind_some,Option.bind_some]
        by_cases hb:((b.length:Nat):Int)=r
        · rw [Aa8 (by simpa using hb),if_neg (by simp [hb]),Option.bind_some,Co1 (by simp) (by simp;omega),Option.bind_some]
          have e0 : [A,b].all Aw8=(Aw8 A&&Aw8 b):=by simp
          rw [e0]
          cases hg:Aw8 A&&Aw8 b with
          | false=>rw [if_pos (by simp)];rfl
          | true=>
            rw [Bool.not_true,cF,if_neg (by simp),h1,Option.bind_some]
            dsimp only
            by_cases he:e=0
            · rw [Aa8 (by simpa using he),if_neg (by simp [he]),Option.bind_some,Co1 (by simp) (by simp;omega),Option.bind_some]
              have e1 : [x].all Aw8=Aw8 x:=by simp
              rw [e1]
              cases hx:Aw8 x with
              | false=>rw [if_pos (by simp)];rfl
              | true=>
                rw [Bool.not_true,cF,if_neg (by simp),Ed5 r c kA (by omega) kb,Option.bind_some]
                by_cases hl:(Ay5 r c A x b).2=0
                · rw [Aa8 (by simpa using hl),if_neg (by simpa using hl),He7,Option.bind_some]
                  have hm:((0+most.toNat:Nat):Int)=most:=by omega
                  have:=Ds4 r c A q l d b kA kb hs most.toNat 0 x FU (by rw [Ae6];omega) (by omega) (by omega) h3
                  rw [hm] at this
                  have this:Ag0 (Ag5 most r c A q l d b) FU (nvx r c A b x,0,x)=_:=this
                  rw [this,Option.bind_some]
                  by_cases hk:(goU r c A q l d b most.toNat x).2=most.toNat
                  · rw [if_pos hk]
                    dsimp only
                    rw [hk,show ((most.toNat:Nat):Int)=most by omega]
                  · rw [if_neg hk]
                    dsimp only
                    rw [Nat.zero_add]
                · rw [Aa6 (by simpa using hl),if_pos (by simpa using hl)];rfl
            · rw [Aa6 (by simpa using he),if_pos (by simpa using he)];rfl
        · rw [Aa6 (by simpa using hb),if_pos (by simp [hb])];rfl
end
end Go.Eng
/-
  The program's Solve and Step on the plain side: they answer. No condition.
-/
set_option maxRecDepth 100000
set_option maxHeartbeats 400000
namespace Go.Eng
open Go
theorem Fr5 (d:Ieee.Datum):Ieee.double.write d<18446744073709551616:=by
  cases d with
  | number s m e=>exact Dw2 s m e
  | infinity s=>exact Bf2 s _ (by decide)
  | nan s f=>exact Bf2 s _ (by
      have:f%Ieee.double.binade<4503599627370496:=Nat.mod_lt _ (by decide)
      have e:Ieee.double.infRung=9218868437227405312:=by decide
      omega)
theorem Eb1 (o:Option Ieee.Datum):(o.map Ieee.double.write).getD Cx5<18446744073709551616:=by
  cases o with
  | none=>decide
  | some d=>exact Fr5 d
theorem Hj9 (x y:Nat):As2 x y<18446744073709551616:=Eb1 _
theorem Hh8 (x y:Nat):Bn1 x y<18446744073709551616:=Eb1 _
theorem Hj7 (x y:Nat):fdiv x y<18446744073709551616:=Eb1 _
theorem Hj6 {f g:Nat→Nat} {s:Nat} (h:s<18446744073709551616):∀ j,Ex3 f g s j<18446744073709551616
  | 0=>h
  | _+1=>Hh8 _ _
theorem Hs5 {l:List Nat} {Q:Nat→Nat} (n:Nat) (h:∀ i,Q i<18446744073709551616):∀ k,∀ p∈bk l Q n k,p<18446744073709551616
  | 0,p,hp=>by cases hp
  | k+1,p,hp=>by
    unfold bk at hp
    rcases List.mem_cons.1 hp with rfl | hp
    · exact Hj6 (h _) _
    · exact Hs5 n h k p hp
theorem Fn6 {d:List Nat} (hd:d.length≤4096):∃ z,Ab5 d (nf 0)=some z:=by
  unfold Ab5 Ad5
  simp only [Option.bind_some]
  have s1:∀ i,i<d.length→feq (d.getD i 0) (nf 0)=false→Aa7 ((d.length:Nat):Int) d (nf 0) (i:Int)=some (.inl ((i+1:Nat):Int)):=fun i hi h=>by
    unfold Aa7
    dsimp only
    rw [Aa6 (by simp;omega),Ab8 0 hi,Option.bind_some,Option.bind_some,Cx6,h,cF,wrU (by omega)]
  rcases Az2 (fun i=>feq (d.getD i 0) (nf 0)) d.length with h | ⟨i,hi,h1,h2⟩
  · have t1:=Ab9 (b:=Aa7 ((d.length:Nat):Int) d (nf 0)) (fun i=>((i:Nat):Int)) (o := .inl ()) d.length (by rw [Ae6];omega) (fun i hi=>s1 i hi (h i hi)) (by
      unfold Aa7
      dsimp only
      rw [Aa8 (by simp)])
    rw [show ((0:Nat):Int)=0 from rfl] at t1
    rw [t1]
    exact ⟨false,rfl⟩
  · have t1:=Ab9 (b:=Aa7 ((d.length:Nat):Int) d (nf 0)) (fun i=>((i:Nat):Int)) (o := .inr (i:Int)) i (by rw [Ae6];omega) (fun j hj=>s1 j (by omega) (h2 j hj)) (by
      unfold Aa7
      dsimp only
      rw [Aa6 (by simp;omega),Ab8 0 hi,Option.bind_some,Option.bind_some,Cx6,h1,cT])
    rw [show ((0:Nat):Int)=0 from rfl] at t1
    rw [t1]
    exact ⟨_,rfl⟩
theorem Fy8 (q:Int) (l d b:List Nat):∃ x e,Ah4 q l d b=some (x,e)∧x.length≤48∧(e=0→x.length=b.length)∧∀ p∈x,p<18446744073709551616:=by
  have none4:∃ x e,(some ([],(4:Int)):Option (List Nat×Int))=some (x,e)∧x.length≤48∧(e=0→x.length=b.length)∧∀ p∈x,p<18446744073709551616:=⟨[],4,rfl,by simp,(fun h=>by cases h),(fun p hp=>by cases hp)⟩
  unfold Ah4
  rcases Bg8 q l d with ⟨hR,n,hq,hn,hl,hd⟩ | hR
  · by_cases hb:b.length=n
    · have hf:Ac6 q l d b=some (fw l b n,0):=by
        unfold Ac6
        rw [Option.bind_some,Cx8 hR (by omega),Option.bind_some,Aa8 (by rfl),Eg3 (by omega),Option.bind_some,Option.bind_some,Ei4 hn hl hb];rfl
      rw [hf,Option.bind_some]
      dsimp only
      rw [Aa8 (by rfl)]
      have lf:(fw l b n).length=n:=Bp7 l b n
      obtain ⟨z,hz⟩:=Fn6 (d:=d) (by omega)
      unfold Ag1
      rw [Option.bind_some,Cx8 hR (by omega),Option.bind_some,Aa8 (by rfl),hz,Option.bind_some,Eg3 (by omega)]
      cases z
      · rw [cF,Option.bind_some,Option.bind_some,Hl3 hn hd lf,Option.bind_some,Option.bind_some,Gr1 hn hl (by simp),Option.bind_some]
        refine ⟨_,_,rfl,by rw [Cb6];exact hn,fun _=>by rw [Cb6,hb],Hs5 n (fun i=>?_) n⟩
        rw [List.getD_eq_getElem?_getD]
        by_cases hi:i<n
        · simp only [List.getElem?_map,List.getElem?_range hi,Option.map_some,Option.getD_some]
          exact Hj7 _ _
        · rw [List.getElem?_eq_none (by simp;omega)];decide
      · exact ⟨[],7,rfl,by simp,(fun h=>by cases h),(fun p hp=>by cases hp)⟩
    · have hf:Ac6 q l d b=some ([],4):=by
        unfold Ac6;rw [Option.bind_some,Ec4 hR (by omega)];rfl
      rw [hf];exact none4
  · have hf:Ac6 q l d b=some ([],4):=by
      unfold Ac6;rw [Option.bind_some,Fd2 hR];rfl
    rw [hf];exact none4
theorem Gt4 (r c:Int) {A b:List Nat} (q:Int) (l d:List Nat) (kA:A.length≤1048576) (kb:b.length≤1048576):Gy8 r c A q l d b:=by
  intro X kX _
  unfold Al7
  rw [Fi8]
  simp only [Option.bind_some]
  cases hf:Fn7 r c A X b with
  | false=>exact ⟨[],4,rfl,by simp,fun h=>by cases h⟩
  | true=>
    simp only [Bool.not_true,Bool.not_false,cT,cF]
    rcases Dg3 r c A q l d with h | h
    · rw [h];exact ⟨[],4,rfl,by simp,fun h=>by cases h⟩
    · rw [h]
      simp only [Option.bind_some,Bool.not_true,cF]
      rw [Ed5 r c kA kX kb]
      obtain ⟨m,n,e1,e2,m48,n48,hA,hmn,hX,hb⟩:=Bx2 hf
      generalize Ay5 r c A X b=p at *
      obtain ⟨t4,t5⟩:=p
      simp only [Option.bind_some]
      by_cases h5:t5=0
      · rw [Aa8 (by simpa using h5)]
        obtain ⟨y,e,s2,s3,s4,s5⟩:=Fy8 q l d t4
        rw [s2]
        simp only [Option.bind_some]
        by_cases he:e=0
        · rw [Aa8 (by simpa using he),Gq4]
          obtain ⟨z,e',hz,lz,wz⟩:∃ z e',Fl9 As2 X y=(z,e')∧z.length≤48∧∀ p∈z,p<18446744073709551616:=by
            unfold Fl9
            split
            · refine ⟨_,_,rfl,by simp [Fq2];omega,fun p hp=>?_⟩
              unfold Fq2 at hp
              obtain ⟨i,_,rfl⟩:=List.mem_map.1 hp
              exact Hj9 _ _
            · exact ⟨_,_,rfl,by simp,(fun p hp=>by cases hp)⟩
          rw [hz]
          simp only [Option.bind_some]
          rw [Co1 (by simp) (by simp;omega),Option.bind_some]
          cases [z].all Aw8 with
          | false=>exact ⟨[],6,rfl,by simp,fun h=>by cases h⟩
          | true=>exact ⟨_,0,rfl,lz,fun _=>wz⟩
        · rw [Aa6 (by simpa using he)]
          exact ⟨[],e,rfl,by simp,fun h=>absurd h he⟩
      · rw [Aa6 (by simpa using h5)]
        exact ⟨[],t5,rfl,by simp,fun h=>absurd h h5⟩
end Go.Eng
