
/-
  What is left of a system, as an exact sum: the program's way and the document's way on the plain side. No condition.
-/
import Derived.Test.YtgbilchfljlbeaaGreatDoorOf
import Derived.Test.YtgbilchfljlbeaaGreatDoorRr
import Derived.Test.YtgbilchfljlbeaaGreatDoorRv
import Derived.Test.YtgbilchfljlbeaaGreatDoorRt
import Derived.Test.YtgbilchfljlbeaaGreatDoorNr4
import Derived.Test.YtgbilchfljlbeaaGreatDoorPmA
import Derived.Test.YtgbilchfljlbeaaGreatDoorFlz3
set_option linter.all false
set_option maxRecDepth 100000
set_option maxHeartbeats 400000
set_option exponentiation.threshold 140000
namespace Go.Eng
open Go
theorem Cy5 {α:Type} (d:α) {p:α→Bool} {l:List α} {B:Int→Option (Int⊕(Unit⊕Bool))} (hl:l.length<FU)
    (hs:∀ i,i<l.length→B (i:Int)=some (if p (l.getD i d) then .inl ((i+1:Nat):Int) else .inr (.inr false))) (he:B ((l.length:Nat):Int)=some (.inr (.inl ()))) :
    Ag0 B FU 0=some (if l.all p then .inl () else .inr false):=by
  have key:∀ n i m,i+n=l.length→n<m→Ag0 B m ((i:Nat):Int)=some (if (l.drop i).all p then .inl () else .inr false):=by
    intro n
    induction n with
    | zero=>
      intro i m h1 h2
      obtain ⟨m',rfl⟩:∃ m',m=m'+1:=⟨m-1,by omega⟩
      rw [Aq9,show i=l.length by omega,he,List.drop_length];rfl
    | succ n ih=>
      intro i m h1 h2
      obtain ⟨m',rfl⟩:∃ m',m=m'+1:=⟨m-1,by omega⟩
      have hi:i<l.length:=by omega
      have e:l.drop i=l.getD i d::l.drop (i+1):=by
        rw [List.drop_eq_getElem_cons hi,List.getD_eq_getElem?_getD,List.getElem?_eq_getElem hi];rfl
      rw [Aq9,hs i hi,e,List.all_cons]
      cases p (l.getD i d) with
      | true=>
        rw [if_pos rfl,Bool.true_and]
        exact ih (i+1) m' (by omega) (by omega)
      | false=>rfl
  have:=key l.length 0 FU (by omega) hl
  rw [List.drop_zero] at this
  exact this
def Aw8 (l:List Nat):Bool:=l.all fun x=>decide (Ab2 x<9218868437227405312)
theorem At7 {l:List Nat} (h:Aw8 l=true) {i:Nat} (hi:i<l.length):Ab2 (l.getD i 0)<9218868437227405312:=by
  unfold Aw8 at h
  rw [List.all_eq_true] at h
  rw [List.getD_eq_getElem?_getD,List.getElem?_eq_getElem hi]
  exact of_decide_eq_true (h _ (List.getElem_mem hi))
theorem Gw1 {l:List Nat} (h:∀ i,i<l.length→Ab2 (l.getD i 0)<9218868437227405312):Aw8 l=true:=by
  unfold Aw8
  rw [List.all_eq_true]
  intro x hx
  obtain ⟨i,hi,rfl⟩:=List.mem_iff_getElem.1 hx
  have:=h i hi
  rw [List.getD_eq_getElem?_getD,List.getElem?_eq_getElem hi] at this
  exact decide_eq_true this
def Cv2 (z:Nat→Int):Nat→Int
  | 0=>0
  | n+1=>Cv2 z n+z n
theorem Fc0 {z:Nat→Int} {P:Nat}:∀ {n:Nat},(∀ j,j<n→(z j).natAbs≤P)→(Cv2 z n).natAbs≤n*P
  | 0,_=>by simp [Cv2]
  | n+1,h=>by
    have h1:=Fc0 (z:=z) (P:=P) (n:=n) fun j hj=>h j (by omega)
    have h2:=h n (by omega)
    rw [Nat.succ_mul]
    show (Cv2 z n+z n).natAbs≤_
    omega
theorem Dq6 {z y:Nat→Int}:∀ {n:Nat},(∀ j,j<n→z j=y j)→Cv2 z n=Cv2 y n
  | 0,_=>rfl
  | n+1,h=>by
    show Cv2 z n+z n=Cv2 y n+y n
    rw [Dq6 fun j hj=>h j (by omega),h n (by omega)]
theorem Em8 (z:Nat→Int):∀ n,Cv2 z (n+1)=z 0+Cv2 (fun j=>z (j+1)) n
  | 0=>by simp [Cv2]
  | n+1=>by
    show Cv2 z (n+1)+z (n+1)=z 0+(Cv2 (fun j=>z (j+1)) n+z (n+1))
    rw [Em8 z n,Int.add_assoc]
theorem Fi0 (z:Nat→Int):∀ n,Cv2 (fun j => - z j) n = - Cv2 z n
  | 0=>rfl
  | n+1=>by
    show Cv2 (fun j => - z j) n + - z n = - (Cv2 z n+z n)
    rw [Fi0 z n];omega
theorem Ge7 {x:Nat} (h:Ab2 x<9218868437227405312):(Am3 x).natAbs<2^2098:=by
  have e:Bq8 9218868437227405312=2^2098:=by decide +kernel
  have:=Bs9 h
  rw [e] at this
  unfold Am3
  generalize 2^2098=P at *
  split<;>omega
theorem Da7 {x y:Nat} (h:Ab2 x<9218868437227405312) (k:Ab2 y<9218868437227405312):(Am3 x*Am3 y).natAbs≤2^4196:=by
  rw [Int.natAbs_mul,show 4196=2098+2098 from rfl,Nat.pow_add]
  exact Nat.mul_le_mul (Nat.le_of_lt (Ge7 h)) (Nat.le_of_lt (Ge7 k))
theorem Cy0 {z:Int} {n:Nat} (hn:n≤128) (h:z.natAbs≤n*2^4196):blN z.natAbs≤4204:=by
  refine An8.2 ?_
  have:n*2^4196≤128*2^4196:=Nat.mul_le_mul_right _ hn
  rw [show 4204=8+4196 from rfl,Nat.pow_add,show (2:Nat)^8=256 from rfl]
  have:=Nat.two_pow_pos 4196
  generalize 2^4196=P at *
  omega
def Gy4 (a x:List Nat) (n:Nat):Int:=Cv2 (fun j=>Am3 (a.getD j 0)*Am3 (x.getD j 0)) n
def Dz (s:Bool) (l:List Int) (e:Int) (z:Int):Prop:=Gd s l e∧nD s l e=z*((2^63388:Nat):Int)
theorem Fw3 {z:Int} (h:blN z.natAbs≤16384):∃ s l f,Cm3 z (-2148)=(s,l,f,0)∧Dz s l f z:=by
  obtain ⟨s,l,f,h1,h2,h3⟩:=Fs2 h (e := -2148) (by decide) (by decide)
  exact ⟨s,l,f,h1,h2,h3⟩
theorem Gx6 {x y:Nat} (hx:Ab2 x<9218868437227405312) (hy:Ab2 y<9218868437227405312):∃ s l f s' l' f' t m g,Au5 x=some (s,l,f,0)∧Au5 y=some (s',l',f',0)∧Be9 s l f s' l' f'=some (t,m,g,0)∧Dz t m g (Am3 x*Am3 y):=by
  obtain ⟨s,l,f,h1,h2,h3⟩:=Gs8 hx
  obtain ⟨s',l',f',k1,k2,k3⟩:=Gs8 hy
  obtain ⟨t,m,g,m1,m2⟩:=Fw3 (z:=Am3 x*Am3 y) (Nat.le_trans (Cy0 (n:=1) (by decide) (by rw [Nat.one_mul];exact Da7 hx hy)) (by decide))
  refine ⟨s,l,f,s',l',f',t,m,g,h1,k1,?_,m2⟩
  rw [He0 h2 k2,h3,k3,← m1,← Aw2 (Am3 x*Am3 y) (-2148) (64462+64462),Nat.pow_add]
  generalize (2^64462:Nat)=P
  rw [Int.natCast_mul]
  congr 2
  ac_rfl
theorem Ha3 {s t:Bool} {l m:List Int} {e f y z:Int} (h:Dz s l e y) (k:Dz t m f z) (hb:blN (y+z).natAbs≤16384):∃ u n g,Be7 s l e t m f=some (u,n,g,0)∧Dz u n g (y+z):=by
  obtain ⟨u,n,g,m1,m2⟩:=Fw3 hb
  refine ⟨u,n,g,?_,m2⟩
  rw [Hj8 h.1 k.1,h.2,k.2,← m1,← Aw2 (y+z) (-2148) 63388,Int.add_mul];rfl
theorem Gk7 {s:Bool} {l:List Int} {e z:Int} (h:Dz s l e z) (m:Int):As0 s l e m=some (rV z (-2148) m,0):=by
  rw [Gx0 h.1,h.2,Ee1];rfl
theorem Gs7 {l:List Nat} (hl:l.length≤1099511627776):At2 l=some (Aw8 l):=by
  unfold At2
  simp only [Option.bind_some]
  rw [Cy5 0 (p:=fun x=>decide (Ab2 x<9218868437227405312)) (l:=l) (by rw [Ae6];omega) (fun i hi=>?_) ?_]
  · unfold Aw8
    cases l.all fun x=>decide (Ab2 x<9218868437227405312)<;>rfl
  · unfold Av0
    dsimp only
    rw [Aa8 (by rw [decide_eq_false_iff_not];omega)]
  · unfold Av0
    dsimp only
    rw [Aa6 (by rw [decide_eq_true_eq];omega),Ab8 0 hi,Option.bind_some]
    generalize l.getD i 0=x
    by_cases hn:Ab2 x≤9218868437227405312
    · rw [Fe0 hn,Option.bind_some,Bool.not_false,cT,Gp3 hn,Option.bind_some]
      by_cases c:Ab2 x=9218868437227405312
      · rw [decide_eq_true c,cT,decide_eq_false (by omega)];rfl
      · rw [decide_eq_false c,cF,decide_eq_true (by omega),wrU (by omega)];rfl
    · have:Af3 x=some true:=by
        unfold Af3
        rw [Bw0,Ad0,decide_eq_true (by omega)];rfl
      rw [this,Option.bind_some,Bool.not_true,cF,decide_eq_false (by omega)];rfl
theorem Hl4 {a x:List Nat} {m:Int} (hl:a.length=x.length) (hn:a.length≤128) (ha:Aw8 a=true) (hx:Aw8 x=true):Ar6 a x m=some (rV (Gy4 a x a.length) (-2148) m,0):=by
  have bound:∀ n,n≤a.length→blN (Gy4 a x n).natAbs≤16384:=fun n hn'=>
    Nat.le_trans (Cy0 (n:=n) (by omega) (Fc0 fun j hj=>Da7 (At7 ha (by omega)) (At7 hx (by omega)))) (by decide)
  unfold Ar6 Bi4
  simp only [Option.bind_some]
  rw [Aa8 (by rw [bne_eq_false_iff_eq];omega),Gs7 (by omega),Gs7 (by omega),ha,hx]
  simp only [Option.bind_some,Bool.not_true,Bool.not_false,cT,cF]
  have i0:Bw9 0=some (false,[],0):=by decide +kernel
  rw [i0,Option.bind_some]
  dsimp only
  obtain ⟨o,h1,h2⟩:=Bj2 (b:=Ar0 ((a.length:Nat):Int) (fun v0=>An0 v0 a x)) (fun i st=>∃ s l e,st=(((i:Nat):Int),s,e,l)∧Dz s l e (Gy4 a x i)) a.length (fun o=>∃ s l e,o=(s,e,l)∧Dz s l e (Gy4 a x a.length)) (by rw [Ae6];omega) (by
    rintro i st hi ⟨s,l,e,rfl,hd⟩
    obtain ⟨s1,l1,f1,s2,l2,f2,t,m',g,o1,o2,o3,o4⟩:=Gx6 (At7 ha hi) (At7 hx (show i<x.length by omega))
    obtain ⟨u,n,g',d1,d2⟩:=Ha3 hd o4 (bound (i+1) (by omega))
    refine ⟨(((i+1:Nat):Int),u,g',n),?_,u,n,g',rfl,d2⟩
    unfold Ar0 An0
    dsimp only
    rw [Aa6 (by rw [decide_eq_true_eq];omega),Ab8 0 hi,Option.bind_some,o1,Option.bind_some]
    dsimp only
    rw [Ab8 0 (show i<x.length by omega),Option.bind_some,o2,Option.bind_some]
    dsimp only
    rw [o3,Option.bind_some,Option.bind_some]
    dsimp only
    rw [d1,Option.bind_some,wrU (by omega)]) (by
    rintro st ⟨s,l,e,rfl,hd⟩
    refine ⟨(s,e,l),?_,s,l,e,rfl,hd⟩
    unfold Ar0
    dsimp only
    rw [Aa8 (by rw [decide_eq_false_iff_not];omega)]) (s0:=(0,false,0,[])) ⟨false,[],0,rfl,.inl ⟨rfl,rfl,rfl⟩,by unfold nD zD sgN lv Gy4 Cv2;simp⟩
  obtain ⟨s,l,e,rfl,hd⟩:=h2
  rw [h1]
  simp only [Option.bind_some]
  rw [Gk7 hd,Option.bind_some]
theorem Eh0 {x:Nat} (hx:x<18446744073709551616) (h:Ab2 x<9218868437227405312):∃ s n e,Av4 x=some (s,LW n,e)∧blN n≤53 ∧ -1074≤e∧e≤1024∧nv (-1074) s n e=Am3 x:=by
  unfold Av4
  rw [Gk2 hx]
  by_cases h0:Ab2 x=0
  · refine ⟨Ae3 x,0,0,?_,by decide,by decide,by decide,?_⟩
    · rw [Co3 h0,Option.bind_some]
      dsimp only
      rw [show (0:Int)=((0:Nat):Int) from rfl,Fb9 (by decide)];rfl
    · rw [Ey0,(Bc4 x).2 h0]
  · obtain ⟨ex,odd,hn,hv⟩:=Em3 h0 h
    have hlo:=ex.lo
    have hhi:=ex.hi
    have hlt:=ex.lt
    refine ⟨Ae3 x,oF (Ab2 x),oP (Ab2 x),?_,An8.2 hlt,hlo,by omega,?_⟩
    · rw [Ez7 h h0,Option.bind_some]
      dsimp only
      rw [Fb9 (by omega)];rfl
    · unfold nv Am3
      rw [hv,show oP (Ab2 x) - -1074=oP (Ab2 x)+1074 by omega]
      unfold sgN
      cases Ae3 x<;>simp [Int.natCast_mul,Int.neg_mul]
theorem Hf0 {s t:Bool} {n k:Nat} {e f:Int} (he : -1074≤e) (hf : -1074≤f):nv (-2148) (!(s==t)) (n*k) (e+f)=nv (-1074) s n e*nv (-1074) t k f:=by
  unfold nv
  rw [Gi3,show (e+f - -2148).toNat=(e - -1074).toNat+(f - -1074).toNat by omega,Nat.pow_add,Int.natCast_mul]
  ac_rfl
theorem Hg9 {s:Bool} {n:Nat} {e:Int} (he : -1074≤e):nv (-2148) s n e=nv (-1074) s n e*((2^1074:Nat):Int):=by
  unfold nv
  rw [show (e - -2148).toNat=(e - -1074).toNat+1074 by omega,Nat.pow_add,Int.natCast_mul,Int.mul_assoc]
theorem Gu5 {K e z:Int} {s:Bool} {n b:Nat} (h:nv K s n e=z) (hz:blN z.natAbs≤b):blN n≤b:=by
  have:=Hf5 K s n e
  rw [h] at this
  refine Nat.le_trans (Gn0 ?_) hz
  rw [this]
  exact Nat.le_mul_of_pos_right _ (Nat.two_pow_pos _)
theorem Fs0 {s:Bool} {n:Nat} {e m z:Int} (hn:blN n≤100000) (h1 : -2148≤e) (h2:e≤100000) (hv:nv (-2148) s n e=z):At4 s (LW n) e m=some (rV z (-2148) m):=by
  have:=LWl hn
  rw [Gf4 (Bk1 n) (by omega) (by omega) (by omega),Av6,Hk8,← hv]
  unfold nv
  rw [Ee1]
  congr 2;omega
end Go.Eng
/-
  What is left of a system: the program's Left and the document's Left are one function. No condition.
-/
set_option maxRecDepth 100000
set_option maxHeartbeats 400000
set_option exponentiation.threshold 140000
namespace Go.Eng
open Go
def Fq3 (A X b:List Nat) (c i:Nat):Int:=Am3 (b.getD i 0)*((2^1074:Nat):Int)-Cv2 (fun j=>Am3 (A.getD (i*c+j) 0)*Am3 (X.getD j 0)) c
def Bq6 (A X b:List Nat) (r c:Nat):List Nat:=(List.range r).map fun i=>rV (Fq3 A X b c i) (-2148) 0
theorem Bs2 (A X b:List Nat) (r c:Nat):(Bq6 A X b r c).length=r:=by simp [Bq6]
def Fn7 (r c:Int) (A X b:List Nat):Bool:=Cb3 r c A.length&&(((X.length:Nat):Int)==c)&&(((b.length:Nat):Int)==r)
def Ay5 (r c:Int) (A X b:List Nat):List Nat×Int:=
  if Fn7 r c A X b then (if Aw8 A&&Aw8 X&&Aw8 b then (if Aw8 (Bq6 A X b r.toNat c.toNat) then (Bq6 A X b r.toNat c.toNat,0) else ([],6)) else ([],5)) else ([],4)
theorem Fi8 (r c:Int) (A X b:List Nat):Aw6 r c A X b=some (Fn7 r c A X b):=by
  unfold Aw6 Fn7
  rw [Ed1]
  simp only [Option.bind_some]
  cases Cb3 r c A.length
  · rfl
  · rw [cT,Bool.true_and]
    cases ((X.length:Nat):Int)==c<;>rfl
theorem Gd3 (r c:Int) (A X b:List Nat):Br1 r c A X b=some (Fn7 r c A X b):=Fi8 r c A X b
theorem Bx2 {r c:Int} {A X b:List Nat} (h:Fn7 r c A X b=true):∃ m n:Nat,r=m∧c=n∧m≤48∧n≤48∧A.length=m*n∧m*n≤2304∧X.length=n∧b.length=m:=by
  unfold Fn7 at h
  simp only [Bool.and_eq_true,beq_iff_eq] at h
  obtain ⟨⟨h1,h2⟩,h3⟩:=h
  obtain ⟨m,n,rfl,rfl,a1,a2,a3,a4⟩:=Fm6 h1
  exact ⟨m,n,rfl,rfl,a1,a2,a3,a4,by omega,by omega⟩
theorem Hl1 {l:List Nat} (hl:l.length≤1099511627776):Ag0 (Am1 ((l.length:Nat):Int) l) FU 0=some (if Aw8 l then .inl () else .inr false):=by
  refine Cy5 0 (p:=fun x=>decide (Ab2 x<9218868437227405312)) (l:=l) (by rw [Ae6];omega) (fun i hi=>?_) ?_
  · unfold Am1
    dsimp only
    rw [Aa6 (by rw [decide_eq_true_eq];omega),Ab8 0 hi]
    simp only [Option.bind_some,Ah1,Cn7,wrU (show i+1<9223372036854775808 by omega)]
    cases decide (Ab2 (l.getD i 0)<9218868437227405312)<;>rfl
  · unfold Am1
    dsimp only
    rw [Aa8 (by rw [decide_eq_false_iff_not];omega)]
theorem Co1 {L:List (List Nat)} (hL:L.length≤1000) (hl:∀ l∈L,l.length≤1099511627776):Af8 L=some (L.all Aw8):=by
  unfold Af8
  simp only [Option.bind_some]
  rw [Cy5 [] (p:=Aw8) (l:=L) (by rw [Ae6];omega) ?_ ?_]
  · cases L.all Aw8<;>rfl
  · intro i hi
    unfold Aq4
    dsimp only
    have hm:L.getD i []∈L:=by
      rw [List.getD_eq_getElem?_getD,List.getElem?_eq_getElem hi];exact List.getElem_mem hi
    rw [Aa6 (by rw [decide_eq_true_eq];omega),Ab8 [] hi]
    simp only [Option.bind_some]
    rw [Hl1 (hl _ hm),wrU (by omega)]
    cases Aw8 (L.getD i [])<;>rfl
  · unfold Aq4
    dsimp only
    rw [Aa8 (by rw [decide_eq_false_iff_not];omega)]
theorem Bu7 {l:List Nat} (hl:l.length≤1099511627776):Ag2 l=some (Aw8 l):=by
  unfold Ag2
  rw [Cy5 0 (p:=fun x=>decide (Ab2 x<9218868437227405312)) (l:=l) (by rw [Ae6];omega) ?_ ?_]
  · unfold Aw8
    cases l.all fun x=>decide (Ab2 x<9218868437227405312)<;>rfl
  · intro i hi
    unfold Ax7
    simp only [Option.bind_some]
    rw [Aa6 (by rw [decide_eq_true_eq];omega),Ab8 0 hi]
    simp only [Option.bind_some,Ah1,Cn7,wrU (show i+1<9223372036854775808 by omega)]
    cases decide (Ab2 (l.getD i 0)<9218868437227405312)<;>rfl
  · unfold Ax7
    simp only [Option.bind_some]
    rw [Aa8 (by rw [decide_eq_false_iff_not];omega)]
theorem Fi5:Am3 4607182418800017408=((2^1074:Nat):Int):=by decide +kernel
theorem Hf9:nf 4607182418800017408=4607182418800017408:=by decide +kernel
theorem Gj1 (x:Nat):Am3 (Bn0 x) = - Am3 x:=by
  unfold Am3
  rw [Av2,Dz6]
  cases Ae3 x<;>simp
def Ew5 (A:List Nat) (c i:Nat):List Nat:=(List.range c).map fun j=>nf (Bn0 (A.getD (i*c+j) 0))
theorem Gd1 {A:List Nat} {c i j:Nat} (h:j<c):(Ew5 A c i).getD j 0=nf (Bn0 (A.getD (i*c+j) 0)):=by
  simp [Ew5,List.getD_eq_getElem?_getD,h]
theorem De9 {A:List Nat} {m n i j:Nat} (hA:A.length=m*n) (hi:i<m) (hj:j<n):i*n+j<A.length:=by rw [hA];exact Hr9 hi hj
theorem Gw3 {A X b:List Nat} {m n i:Nat} (hA:A.length=m*n) (hi:i<m) (fA:Aw8 A=true):Gy4 (b.getD i 0::Ew5 A n i) (4607182418800017408::X) (n+1)=Fq3 A X b n i:=by
  unfold Gy4 Fq3
  rw [Em8]
  have e:Cv2 (fun j=>Am3 ((b.getD i 0::Ew5 A n i).getD (j+1) 0)*Am3 ((4607182418800017408::X).getD (j+1) 0)) n=Cv2 (fun j => - (Am3 (A.getD (i*n+j) 0)*Am3 (X.getD j 0))) n:=by
    refine Dq6 fun j hj=>?_
    rw [show (b.getD i 0::Ew5 A n i).getD (j+1) 0=(Ew5 A n i).getD j 0 from rfl,show (4607182418800017408::X).getD (j+1) 0=X.getD j 0 from rfl,Gd1 hj]
    have:=At7 fA (De9 hA hi hj)
    rw [Bz4 (by rw [Av2];omega),Gj1,Int.neg_mul]
  rw [e,Fi0,show (b.getD i 0::Ew5 A n i).getD 0 0=b.getD i 0 from rfl,show (4607182418800017408::X).getD 0 0=4607182418800017408 from rfl,Fi5]
  omega
theorem Hc0 {A b:List Nat} {m n i:Nat} (hA:A.length=m*n) (hi:i<m) (hb:b.length=m) (fA:Aw8 A=true) (fb:Aw8 b=true):Aw8 (b.getD i 0::Ew5 A n i)=true:=by
  refine Gw1 fun k hk=>?_
  cases k with
  | zero=>exact At7 fb (by omega)
  | succ j=>
    have hj:j<n:=by simp [Ew5] at hk;omega
    have:=At7 fA (De9 hA hi hj)
    rw [show (b.getD i 0::Ew5 A n i).getD (j+1) 0=(Ew5 A n i).getD j 0 from rfl,Gd1 hj,Bz4 (by rw [Av2];omega),Av2]
    exact this
theorem Gz4 {X:List Nat} (fX:Aw8 X=true):Aw8 (4607182418800017408::X)=true:=by
  unfold Aw8 at *
  rw [List.all_cons,fX];decide
theorem Ed5 (r c:Int) {A X b:List Nat} (kA:A.length≤1048576) (kX:X.length≤1048576) (kb:b.length≤1048576):Ah8 r c A X b=some (Ay5 r c A X b):=by
  unfold Ah8 Ay5
  rw [Fi8]
  simp only [Option.bind_some]
  cases hf:Fn7 r c A X b with
  | false=>rw [Bool.not_false,cT];rfl
  | true=>
    obtain ⟨m,n,rfl,rfl,m48,n48,hA,hmn,hX,hb⟩:=Bx2 hf
    rw [Bool.not_true,cF,Co1 (by simp) (by simp;omega),Option.bind_some,if_pos rfl]
    have e0 : [A,X,b].all Aw8=(Aw8 A&&Aw8 X&&Aw8 b):=by simp [Bool.and_assoc]
    rw [e0]
    cases hg:Aw8 A&&Aw8 X&&Aw8 b with
    | false=>rw [Bool.not_false,cT];rfl
    | true=>
      simp only [Bool.and_eq_true] at hg
      obtain ⟨⟨fA,fX⟩,fb⟩:=hg
      rw [Bool.not_true,cF,if_pos rfl,Hf9,Bg5 (by simp;omega),Option.bind_some,show ([4607182418800017408]:List Nat)++X=4607182418800017408::X from rfl]
      have loop:=Ab9 (b:=Ak2 ((m:Nat):Int) b A ((n:Nat):Int) (4607182418800017408::X)) (fun i=>(((i:Nat):Int),Bq6 A X b i n)) (o:=Bq6 A X b m n) m (by rw [Ae6];omega) (fun i hi=>by
        have hbd:(i+1)*n≤m*n:=Nat.mul_le_mul_right _ hi
        have hbd2:i*n≤(i+1)*n:=Nat.mul_le_mul_right _ (by omega)
        have hbd3:(i+1)*n-i*n=n:=by rw [Nat.succ_mul];omega
        unfold Ak2
        dsimp only
        rw [Aa6 (by rw [decide_eq_true_eq];omega),Ab8 0 (show i<b.length by omega)]
        simp only [Option.bind_some]
        rw [wrU (by omega),Fx7 (by omega),Fx7 (by omega),Cd4 hbd2 (by omega),hbd3,Option.bind_some]
        have hl:((A.drop (i*n)).take n).length=n:=by rw [List.length_take,List.length_drop];omega
        have inner:=Ab9 (b:=Ak5 ((n:Nat):Int) ((A.drop (i*n)).take n)) (fun j=>(((j:Nat):Int),b.getD i 0::(List.range j).map fun j=>nf (Bn0 (A.getD (i*n+j) 0)))) (o:=b.getD i 0::Ew5 A n i) n (by rw [Ae6];omega) (fun j hj=>by
          unfold Ak5
          dsimp only
          have e:((A.drop (i*n)).take n).getD j 0=A.getD (i*n+j) 0:=by
            simp [List.getD_eq_getElem?_getD,List.getElem?_take,hj]
          rw [Aa6 (by rw [decide_eq_true_eq];omega),Ab8 0 (by omega),e]
          simp only [Option.bind_some]
          rw [Bg5 (by simp;omega),Option.bind_some,wrU (by omega),List.cons_append,Ap6 (G:=fun j=>nf (Bn0 (A.getD (i*n+j) 0)))]) (by
          unfold Ak5
          dsimp only
          rw [Aa8 (by rw [decide_eq_false_iff_not];omega)];rfl)
        have inner:Ag0 (Ak5 ((n:Nat):Int) ((A.drop (i*n)).take n)) FU (0,[b.getD i 0])=some (b.getD i 0::Ew5 A n i):=inner
        have hrl:(b.getD i 0::Ew5 A n i).length=n+1:=by simp [Ew5]
        rw [hl,inner,Option.bind_some,Hl4 (by rw [hrl];simp;omega) (by omega) (Hc0 hA hi hb fA fb) (Gz4 fX),hrl,Gw3 hA hi fA]
        simp only [Option.bind_some]
        rw [Bg5 (by simp [Bq6];omega),Option.bind_some]
        unfold Bq6
        rw [Ap6 (G:=fun i=>rV (Fq3 A X b n i) (-2148) 0)]) (by
        unfold Ak2
        dsimp only
        rw [Aa8 (by rw [decide_eq_false_iff_not];omega)])
      have loop:Ag0 (Ak2 ((m:Nat):Int) b A ((n:Nat):Int) (4607182418800017408::X)) FU (0,[])=some (Bq6 A X b m n):=loop
      rw [show List.map nf []=([]:List Nat) from rfl,loop,Option.bind_some,Co1 (by simp) (by simp [Bs2];omega),Option.bind_some]
      have e1 : [Bq6 A X b m n].all Aw8=Aw8 (Bq6 A X b m n):=by simp
      rw [e1,Int.toNat_natCast,Int.toNat_natCast]
      cases Aw8 (Bq6 A X b m n)<;>rfl
theorem Gv4 (s:Bool) (l:List Int) (e:Int):Bp3 s l e=some (!s,l,e):=rfl
theorem Fc3 (r c:Int) {A X b:List Nat} (kA:A.length≤1048576) (kX:X.length≤1048576) (kb:b.length≤1048576) (wA:∀ p∈A,p<18446744073709551616) (wX:∀ p∈X,p<18446744073709551616) (wb:∀ p∈b,p<18446744073709551616):Az9 r c A X b=some (Ay5 r c A X b):=by
  have wat:∀ {l:List Nat},(∀ p∈l,p<18446744073709551616)→∀ {i},i<l.length→l.getD i 0<18446744073709551616:=fun h i hi=>by
    rw [List.getD_eq_getElem?_getD,List.getElem?_eq_getElem hi];exact h _ (List.getElem_mem hi)
  unfold Az9 Ay5
  rw [Gd3]
  simp only [Option.bind_some]
  cases hf:Fn7 r c A X b with
  | false=>rw [Bool.not_false,cT];rfl
  | true=>
    obtain ⟨m,n,rfl,rfl,m48,n48,hA,hmn,hX,hb⟩:=Bx2 hf
    rw [Bool.not_true,cF,Bu7 (by omega),Bu7 (by omega),Bu7 (by omega),if_pos rfl]
    simp only [Option.bind_some]
    cases fA:Aw8 A with
    | false=>rfl
    | true=>
    cases fX:Aw8 X with
    | false=>rfl
    | true=>
    cases fb:Aw8 b with
    | false=>rfl
    | true=>
      simp only [Bool.not_true,Bool.not_false,cT,cF,Option.bind_some,Bool.and_true,if_true]
      have loop:=Ab9 (b:=As9 ((m:Nat):Int) b ((n:Nat):Int) A X) (fun i=>(((i:Nat):Int),Bq6 A X b i n)) (o:=Bq6 A X b m n) m (by rw [Ae6];omega) (fun i hi=>by
        obtain ⟨s0,n0,e0,f1,f2,f3,f4,f5⟩:=Eh0 (wat wb (show i<b.length by omega)) (At7 fb (show i<b.length by omega))
        have bd:∀ j,j≤n→blN (Am3 (b.getD i 0)*((2^1074:Nat):Int)-Cv2 (fun j=>Am3 (A.getD (i*n+j) 0)*Am3 (X.getD j 0)) j).natAbs≤4204:=fun j hj=>by
          refine Cy0 (n:=j+1) (by omega) ?_
          have a1:=Fc0 (z:=fun j=>Am3 (A.getD (i*n+j) 0)*Am3 (X.getD j 0)) (P:=2^4196) (n:=j) fun k hk=>Da7 (At7 fA (De9 hA hi (by omega))) (At7 fX (by omega))
          have a2:=Da7 (At7 fb (show i<b.length by omega)) (y:=4607182418800017408) (by decide)
          rw [Fi5] at a2
          rw [Nat.succ_mul]
          generalize (2^1074:Nat)=Q at *
          generalize (2^4196:Nat)=P at *
          omega
        unfold As9
        dsimp only
        rw [Aa6 (by rw [decide_eq_true_eq];omega),Ab8 0 (show i<b.length by omega),Option.bind_some,f1,Option.bind_some]
        dsimp only
        obtain ⟨o,h1,h2⟩:=Bj2 (b:=Ay1 ((n:Nat):Int) A ((i:Nat):Int) X) (fun j st=>∃ s p e,st=(((j:Nat):Int),s,e,LW p) ∧ -2148≤e∧e≤2048∧nv (-2148) s p e=Am3 (b.getD i 0)*((2^1074:Nat):Int)-Cv2 (fun j=>Am3 (A.getD (i*n+j) 0)*Am3 (X.getD j 0)) j) n (fun o=>∃ s p e,o=(s,e,LW p) ∧ -2148≤e∧e≤2048∧nv (-2148) s p e=Fq3 A X b n i) (by rw [Ae6];omega) (by
          rintro j st hj ⟨s,p,e,rfl,e1,e2,hv⟩
          obtain ⟨sa,na,ea,a1,a2,a3,a4,a5⟩:=Eh0 (wat wA (De9 hA hi hj)) (At7 fA (De9 hA hi hj))
          obtain ⟨sx,nx,ex,x1,x2,x3,x4,x5⟩:=Eh0 (wat wX (show j<X.length by omega)) (At7 fX (show j<X.length by omega))
          have hprod:nv (-2148) (!(sa==sx)) (na*nx) (ea+ex)=Am3 (A.getD (i*n+j) 0)*Am3 (X.getD j 0):=by rw [Hf0 a3 x3,a5,x5]
          have bp:blN p≤33554432:=Gu5 hv (Nat.le_trans (bd j (by omega)) (by decide))
          have bq:blN (na*nx)≤33554432:=Gu5 hprod (Nat.le_trans (Cy0 (n:=1) (by decide) (by rw [Nat.one_mul];exact Da7 (At7 fA (De9 hA hi hj)) (At7 fX (show j<X.length by omega)))) (by decide))
          obtain ⟨u,q,g,p1,p2,p3,p4⟩:=Hd6 (s:=s) (t := !(!(sa==sx))) (n:=p) (k:=na*nx) (e:=e) (f:=ea+ex) bp bq (by omega) (by omega) (by omega) (by omega)
          refine ⟨(((j+1:Nat):Int),u,g,LW q),?_,u,q,g,rfl,by omega,by omega,?_⟩
          · unfold Ay1
            dsimp only
            have hidx:=De9 hA hi hj
            rw [Aa6 (by rw [decide_eq_true_eq];omega),Hq7 hi hj (by omega),Ab8 0 hidx,Option.bind_some,Ab8 0 (show j<X.length by omega),Option.bind_some,a1,Option.bind_some]
            dsimp only
            rw [x1,Option.bind_some]
            dsimp only
            rw [Ha2 (by omega) (by omega) (by omega) (by omega) (by omega) (by omega),Option.bind_some,Option.bind_some]
            dsimp only
            rw [Gv4,Option.bind_some]
            dsimp only
            rw [p1,Option.bind_some,wrU (by omega)]
          · rw [p4 (-2148) (by omega) (by omega),Gi9,hv,hprod]
            show _=_-(Cv2 _ j+Am3 (A.getD (i*n+j) 0)*Am3 (X.getD j 0))
            omega) (by
          rintro st ⟨s,p,e,rfl,e1,e2,hv⟩
          refine ⟨(s,e,LW p),?_,s,p,e,rfl,e1,e2,hv⟩
          unfold Ay1
          dsimp only
          rw [Aa8 (by rw [decide_eq_false_iff_not];omega)]) (s0:=(0,s0,e0,LW n0)) ⟨s0,n0,e0,rfl,by omega,by omega,by rw [Hg9 f3,f5];simp [Cv2]⟩
        obtain ⟨s,p,e,rfl,e1,e2,hv⟩:=h2
        rw [h1,Option.bind_some]
        dsimp only
        rw [Fs0 (Nat.le_trans (Gu5 hv (bd n (Nat.le_refl _))) (by decide)) e1 (by omega) hv]
        simp only [Option.bind_some]
        rw [Bg5 (by simp [Bq6];omega),Option.bind_some,wrU (by omega)]
        unfold Bq6
        rw [Ap6 (G:=fun i=>rV (Fq3 A X b n i) (-2148) 0)]) (by
        unfold As9
        dsimp only
        rw [Aa8 (by rw [decide_eq_false_iff_not];omega)])
      have loop:Ag0 (As9 ((m:Nat):Int) b ((n:Nat):Int) A X) FU (0,[])=some (Bq6 A X b m n):=loop
      rw [show List.map nf []=([]:List Nat) from rfl,loop,Option.bind_some,Bu7 (by rw [Bs2];omega),Option.bind_some,Int.toNat_natCast,Int.toNat_natCast]
      cases Aw8 (Bq6 A X b m n)<;>rfl
end Go.Eng
