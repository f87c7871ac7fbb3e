
/-
  Solving with a factor on the plain side: what the twins of the package solve and of its reference come to. No condition.
-/
import Derived.Test.YtgbilchfljlbeaaGreatDoorPmA
import Derived.Test.YtgbilchfljlbeaaGreatDoorFl2
import Derived.Test.YtgbilchfljlbeaaGreatDoorFlz3
set_option linter.all false
set_option maxRecDepth 100000
set_option maxHeartbeats 4000000
namespace Go.Eng
open Go
def tri (n:Nat):Nat:=n*(n-1)/2
theorem Fg7 (n:Nat):tri (n+1)=tri n+n:=by
  cases n with
  | zero=>rfl
  | succ n=>
    unfold tri
    have:(n+1+1)*(n+1+1-1)=(n+1)*(n+1-1)+(n+1)*2:=by
      simp only [Nat.add_sub_cancel]
      rw [← Nat.mul_add,Nat.mul_comm]
    rw [this,Nat.add_mul_div_right _ _ (by omega)]
theorem Fj9 {i n:Nat} (h:i≤n):tri i≤tri n:=by
  induction n with
  | zero=>
      have:i=0:=by omega
      subst this;exact Nat.le_refl _
  | succ n ih=>
    by_cases e:i=n+1
    · subst e;exact Nat.le_refl _
    · have:=ih (by omega)
      rw [Fg7];omega
theorem He9 {i j n:Nat} (hj:j<i) (hi:i<n):tri i+j<tri n:=by
  have:=Fj9 (show i+1≤n by omega)
  rw [Fg7] at this
  omega
theorem Hj3 {n:Nat} (h:n≤48):tri n≤1128:=Fj9 h
theorem Hi7 {i j:Nat} (hj:j<i) (hi:i<4096):IntKind.i64.wrap ((IntKind.i64.wrap ((IntKind.i64.wrap ((i:Int)*(IntKind.i64.wrap ((i:Int)-1)))).tdiv 2))+(j:Int))=((tri i+j:Nat):Int):=by
  have e1:IntKind.i64.wrap ((i:Int)-1)=((i-1:Nat):Int):=by rw [wrI (by omega) (by omega)];omega
  have hb:i*(i-1)≤4096*4096:=Nat.mul_le_mul (by omega) (by omega)
  have e2:(((i*(i-1):Nat):Int)).tdiv 2=((tri i:Nat):Int):=rfl
  have ht:tri i≤4096*4096:=Nat.le_trans (Nat.div_le_self _ _) hb
  rw [e1,Fx7 (by omega),e2,wrN (by omega),Dd8 (by omega)]
def Fc6 (l:List Nat) (i j:Nat):Nat:=l.getD (tri i+j) 0
theorem Ew3 {q:Int} {l d:List Nat} {n i j:Nat} (hn:n≤48) (hl:l.length=tri n) (hj:j<i) (hi:i<n):At1 q l d (i:Int) (j:Int)=some (Fc6 l i j):=by
  unfold At1
  rw [Hi7 hj (by omega),Ab8 0 (by rw [hl];exact He9 hj hi)];rfl
theorem Fl1 {q:Int} {l d:List Nat} {n i j:Nat} (hn:n≤48) (hl:l.length=tri n) (hj:j<i) (hi:i<n):Cm2 q l d (i:Int) (j:Int)=some (Fc6 l i j):=Ew3 (q:=q) (d:=d) hn hl hj hi
theorem Bg8 (q:Int) (l d:List Nat):(Ad3 q l d=some true∧∃ n:Nat,q=n∧n≤48∧l.length=tri n∧d.length=n)∨Ad3 q l d=some false:=by
  unfold Ad3
  by_cases h0:0≤q
  · rw [Aa6 (by simpa using h0)]
    by_cases h1:q≤48
    · rw [Aa6 (by simpa using h1)]
      obtain ⟨n,rfl⟩:=Int.eq_ofNat_of_zero_le h0
      have hn:n≤48:=by omega
      simp only [Option.bind_some]
      have e:IntKind.i64.wrap ((IntKind.i64.wrap ((n:Int)*(IntKind.i64.wrap ((n:Int)-1)))).tdiv 2)=((tri n:Nat):Int):=by
        cases n with
        | zero=>decide
        | succ n=>
          have e1:IntKind.i64.wrap (((n+1:Nat):Int)-1)=((n+1-1:Nat):Int):=by rw [wrI (by omega) (by omega)];omega
          have hb:(n+1)*(n+1-1)≤48*48:=Nat.mul_le_mul (by omega) (by omega)
          have e2:((((n+1)*(n+1-1):Nat):Int)).tdiv 2=((tri (n+1):Nat):Int):=rfl
          have:=Hj3 hn
          rw [e1,Fx7 (by omega),e2,wrN (by omega)]
      rw [e]
      by_cases h2:l.length=tri n
      · rw [Aa6 (by simp [h2])]
        by_cases h3:d.length=n
        · refine .inl ⟨by simp [h3],n,rfl,hn,h2,h3⟩
        · refine .inr ?_
          have:((d.length:Nat):Int)≠n:=by omega
          simp [this]
      · refine .inr ?_
        have:((l.length:Nat):Int)≠(tri n:Nat):=by omega
        rw [Aa8 (by simpa using this)]
    · rw [Aa8 (by simpa using h1)];exact .inr rfl
  · rw [Aa8 (by simpa using h0)];exact .inr rfl
theorem Bw7 (q:Int) (l d:List Nat):Bf4 q l d=Ad3 q l d:=rfl
theorem Gq3 {p r:List Nat} {j:Nat} (h:j<p.length):(p++r).getD j 0=p.getD j 0:=by
  simp [List.getD_eq_getElem?_getD,List.getElem?_append_left h]
theorem Fy4 {p r:List Nat} {x i:Nat} (h:p.length=i):(p++x::r).getD i 0=x:=by
  subst h;simp [List.getD_eq_getElem?_getD]
theorem Gq7 {p r:List Nat} {x i m:Nat} (h:p.length=i):(p++x::r).getD (i+1+m) 0=r.getD m 0:=by
  subst h
  rw [List.getD_eq_getElem?_getD,List.getD_eq_getElem?_getD,List.getElem?_append_right (by omega)]
  rw [show p.length+1+m-p.length=m+1 by omega,List.getElem?_cons_succ]
theorem Dc2 {p r:List Nat} {x y i:Nat} (h:p.length=i):(p++x::r).set i y=p++y::r:=by
  subst h;simp
theorem Es1 {l:List Nat} {i:Nat} (h:i<l.length):l.drop i=l.getD i 0::l.drop (i+1):=by
  rw [List.drop_eq_getElem_cons h,List.getD_eq_getElem?_getD,List.getElem?_eq_getElem h];rfl
theorem Gf1 {l:List Nat} {i:Nat} (h:i<l.length):l.take (i+1)=l.take i ++ [l.getD i 0]:=by
  rw [List.take_add_one,List.getElem?_eq_getElem h,List.getD_eq_getElem?_getD,List.getElem?_eq_getElem h];rfl
def Ex3 (f g:Nat→Nat) (s:Nat):Nat→Nat
  | 0=>s
  | j+1=>Bn1 (Ex3 f g s j) (Cq0 (f j) (g j))
def fw (l b:List Nat):Nat→List Nat
  | 0=>[]
  | i+1=>fw l b i ++ [Ex3 (fun j=>Fc6 l i j) (fun j=>(fw l b i).getD j 0) (b.getD i 0) i]
theorem Bp7 (l b:List Nat):∀ i,(fw l b i).length=i
  | 0=>rfl
  | i+1=>by simp [fw,Bp7 l b i]
theorem Hk0 {q:Int} {l d b:List Nat} {n i:Nat} (hn:n≤48) (hl:l.length=tri n) (hb:b.length=n) (hi:i<n) :
    Ag0 (Ag8 (i:Int) q l d) FU (0,fw l b i++b.drop i)=some (fw l b (i+1)++b.drop (i+1)):=by
  have:=Ab9 (b:=Ag8 (i:Int) q l d) (fun j=>(((j:Nat):Int),fw l b i++Ex3 (fun j=>Fc6 l i j) (fun j=>(fw l b i).getD j 0) (b.getD i 0) j::b.drop (i+1))) (o:=fw l b (i+1)++b.drop (i+1)) i (by rw [Ae6];omega) (fun j hj=>by
    unfold Ag8
    dsimp only
    have len:(fw l b i++Ex3 (fun j=>Fc6 l i j) (fun j=>(fw l b i).getD j 0) (b.getD i 0) j::b.drop (i+1)).length=n:=by simp [Bp7,hb];omega
    rw [Aa6 (by simp;omega),Ab8 0 (by rw [len];exact hi),Option.bind_some,Ab8 0 (by rw [len];omega),Option.bind_some,Ew3 hn hl hj hi]
    simp only [Option.bind_some,Int.toNat_natCast]
    rw [Fy4 (Bp7 l b i),Gq3 (by rw [Bp7];exact hj),Dc2 (Bp7 l b i),wrU (by omega)];rfl) (by
    unfold Ag8
    dsimp only
    rw [Aa8 (by simp)]
    simp [fw])
  rw [Es1 (l:=b) (i:=i) (by omega)]
  exact this
theorem Ei4 {q:Int} {l d b:List Nat} {n:Nat} (hn:n≤48) (hl:l.length=tri n) (hb:b.length=n) :
    Ag0 (Ag9 ((b.length:Nat):Int) q l d) FU (0,b)=some (fw l b n):=by
  have:=Ab9 (b:=Ag9 ((b.length:Nat):Int) q l d) (fun i=>(((i:Nat):Int),fw l b i++b.drop i)) (o:=fw l b n) n (by rw [Ae6];omega) (fun i hi=>by
    unfold Ag9
    dsimp only
    rw [Aa6 (by simp;omega),Hk0 hn hl hb hi,Option.bind_some,wrU (by omega)]) (by
    unfold Ag9
    dsimp only
    rw [Aa8 (by simp;omega),List.drop_of_length_le (by omega),List.append_nil])
  exact this
theorem Gx1 {q:Int} {l d b r:List Nat} {n i:Nat} (hn:n≤48) (hl:l.length=tri n) (hi:i<n) (s:Nat) :
    Ag0 (Aj6 (i:Int) (fw l b i++r) q l d) FU (s,0)=some (Ex3 (fun j=>Fc6 l i j) (fun j=>(fw l b i).getD j 0) s i):=by
  exact Ab9 (b:=Aj6 (i:Int) (fw l b i++r) q l d) (fun j=>(Ex3 (fun j=>Fc6 l i j) (fun j=>(fw l b i).getD j 0) s j,((j:Nat):Int))) (o:=Ex3 (fun j=>Fc6 l i j) (fun j=>(fw l b i).getD j 0) s i) i (by rw [Ae6];omega) (fun j hj=>by
    unfold Aj6
    dsimp only
    rw [Aa6 (by simp;omega),Ab8 0 (by rw [List.length_append,Bp7];omega),Option.bind_some,Fl1 hn hl hj hi]
    simp only [Option.bind_some]
    rw [Gq3 (by rw [Bp7];exact hj),wrU (by omega)];rfl) (by
    unfold Aj6
    dsimp only
    rw [Aa8 (by simp)])
theorem Fp5 {l d b:List Nat} {n:Nat} (hn:n≤48) (hl:l.length=tri n) (hb:b.length=n) :
    Ag0 (Ak1 (n:Int) b l d) FU (0,List.replicate n 0)=some (fw l b n):=by
  have:=Ab9 (b:=Ak1 (n:Int) b l d) (fun i=>(((i:Nat):Int),fw l b i++List.replicate (n-i) 0)) (o:=fw l b n) n (by rw [Ae6];omega) (fun i hi=>by
    unfold Ak1
    dsimp only
    have e:List.replicate (n-i) 0=0::List.replicate (n-(i+1)) 0:=by rw [show n-i=(n-(i+1))+1 by omega,List.replicate_succ]
    rw [Aa6 (by simp;omega),Ab8 0 (by omega),Option.bind_some,Gx1 hn hl hi,Option.bind_some,Ab8 0 (by simp [Bp7];omega),Option.bind_some,e]
    simp only [Option.bind_some,Int.toNat_natCast]
    rw [Dc2 (Bp7 l b i),wrU (by omega)]
    simp [fw]) (by
    unfold Ak1
    dsimp only
    rw [Aa8 (by simp),Nat.sub_self,List.replicate_zero,List.append_nil])
  exact this
def Eh9 (d b:List Nat) (i:Nat):Nat:=fdiv (b.getD i 0) (d.getD i 0)
def bk (l:List Nat) (q:Nat→Nat) (n:Nat):Nat→List Nat
  | 0=>[]
  | k+1=>Ex3 (fun m=>Fc6 l (n-1-k+1+m) (n-1-k)) (fun m=>(bk l q n k).getD m 0) (q (n-1-k)) k::bk l q n k
theorem Cb6 (l:List Nat) (q:Nat→Nat) (n:Nat):∀ k,(bk l q n k).length=k
  | 0=>rfl
  | k+1=>by simp [bk,Cb6 l q n k]
theorem Hl3 {d b:List Nat} {n:Nat} (hn:n≤48) (hd:d.length=n) (hb:b.length=n) :
    Ag0 (Am8 ((d.length:Nat):Int) d) FU (0,b)=some ((List.range n).map (Eh9 d b)):=by
  have st:∀ i,i≤n→((List.range i).map (Eh9 d b)++b.drop i).length=n:=fun i hi=>by simp [hb];omega
  have:=Ab9 (b:=Am8 ((d.length:Nat):Int) d) (fun i=>(((i:Nat):Int),(List.range i).map (Eh9 d b)++b.drop i)) (o:=(List.range n).map (Eh9 d b)) n (by rw [Ae6];omega) (fun i hi=>by
    unfold Am8
    dsimp only
    rw [Aa6 (by simp;omega),Ab8 0 (by omega),Option.bind_some,Ab8 0 (by rw [st i (by omega)];exact hi)]
    simp only [Option.bind_some,Int.toNat_natCast]
    rw [Es1 (l:=b) (by omega),Fy4 (by simp),Dc2 (by simp),wrU (by omega),← Ap6]
    simp [Eh9]) (by
    unfold Am8
    dsimp only
    rw [Aa8 (by simp;omega),List.drop_of_length_le (by omega),List.append_nil])
  exact this
theorem Hj0 {q:Int} {l d Q:List Nat} {n k:Nat} (hn:n≤48) (hl:l.length=tri n) (hQ:Q.length=n) (hk:k<n) :
    Ag0 (Aj5 (n:Int) (k:Int) q l d) FU (((n-1-k+1:Nat):Int),Q.take (n-k)++bk l (fun i=>Q.getD i 0) n k)=some (Q.take (n-(k+1))++bk l (fun i=>Q.getD i 0) n (k+1)):=by
  have e1:IntKind.i64.wrap ((IntKind.i64.wrap ((n:Int)-1))-(k:Int))=((n-1-k:Nat):Int):=by
    rw [wrI (n:=(n:Int)-1) (by omega) (by omega),wrI (by omega) (by omega)];omega
  have tl:(Q.take (n-(k+1))).length=n-1-k:=by simp;omega
  have split:Q.take (n-k)++bk l (fun i=>Q.getD i 0) n k=Q.take (n-(k+1))++Q.getD (n-1-k) 0::bk l (fun i=>Q.getD i 0) n k:=by
    rw [show n-k=(n-1-k)+1 by omega,Gf1 (by omega),show n-(k+1)=n-1-k by omega];simp
  have:=Ab9 (b:=Aj5 (n:Int) (k:Int) q l d) (fun m=>(((n-1-k+1+m:Nat):Int),Q.take (n-(k+1))++Ex3 (fun m=>Fc6 l (n-1-k+1+m) (n-1-k)) (fun m=>(bk l (fun i=>Q.getD i 0) n k).getD m 0) (Q.getD (n-1-k) 0) m::bk l (fun i=>Q.getD i 0) n k)) (o:=Q.take (n-(k+1))++bk l (fun i=>Q.getD i 0) n (k+1)) k (by rw [Ae6];omega) (fun m hm=>by
    unfold Aj5
    have len:(Q.take (n-(k+1))++Ex3 (fun m=>Fc6 l (n-1-k+1+m) (n-1-k)) (fun m=>(bk l (fun i=>Q.getD i 0) n k).getD m 0) (Q.getD (n-1-k) 0) m::bk l (fun i=>Q.getD i 0) n k).length=n:=by
      rw [List.length_append,List.length_cons,Cb6,tl];omega
    simp only [Option.bind_some,e1,len]
    rw [Aa6 (by simp;omega),Ab8 0 (by rw [len];omega),Option.bind_some,Ab8 0 (by rw [len];omega),Option.bind_some,Ew3 hn hl (by omega) (by omega)]
    simp only [Option.bind_some,Int.toNat_natCast]
    rw [Fy4 tl,Gq7 tl,Dc2 tl,wrU (by omega)];rfl) (by
    unfold Aj5
    have len:(Q.take (n-(k+1))++Ex3 (fun m=>Fc6 l (n-1-k+1+m) (n-1-k)) (fun m=>(bk l (fun i=>Q.getD i 0) n k).getD m 0) (Q.getD (n-1-k) 0) k::bk l (fun i=>Q.getD i 0) n k).length=n:=by
      rw [List.length_append,List.length_cons,Cb6,tl];omega
    simp only [Option.bind_some,len]
    rw [Aa8 (by simp;omega)]
    rfl)
  rw [split]
  exact this
theorem Gr1 {q:Int} {l d Q:List Nat} {n:Nat} (hn:n≤48) (hl:l.length=tri n) (hQ:Q.length=n) :
    Ag0 (An3 ((Q.length:Nat):Int) q l d) FU (0,Q)=some (bk l (fun i=>Q.getD i 0) n n):=by
  have:=Ab9 (b:=An3 ((Q.length:Nat):Int) q l d) (fun k=>(((k:Nat):Int),Q.take (n-k)++bk l (fun i=>Q.getD i 0) n k)) (o:=bk l (fun i=>Q.getD i 0) n n) n (by rw [Ae6];omega) (fun k hk=>by
    unfold An3
    have len:(Q.take (n-k)++bk l (fun i=>Q.getD i 0) n k).length=n:=by rw [List.length_append,Cb6,List.length_take];omega
    have e1:IntKind.i64.wrap ((IntKind.i64.wrap ((IntKind.i64.wrap ((n:Int)-1))-(k:Int)))+1)=((n-1-k+1:Nat):Int):=by
      rw [wrI (n:=(n:Int)-1) (by omega) (by omega),wrI (n:=(n:Int)-1-k) (by omega) (by omega),wrI (by omega) (by omega)];omega
    simp only [Option.bind_some,len,e1]
    rw [Aa6 (by simp;omega),Hj0 hn hl hQ hk,Option.bind_some,wrU (by omega)]) (by
    unfold An3
    dsimp only
    rw [Aa8 (by simp;omega),Nat.sub_self,List.take_zero,List.nil_append])
  rw [Nat.sub_zero,show Q.take n=Q by rw [← hQ,List.take_length]] at this
  simpa [bk] using this
theorem Gz2 {l d:List Nat} {Z:List Nat} {n k s:Nat} {f:Nat→Nat} (hn:n≤48) (hl:l.length=tri n) (hk:k<n) (hZ:Z.length=n-1-k) {z:Nat} :
    Ag0 (At3 (n:Int) (Z++z::bk l f n k) l d ((n-1-k:Nat):Int)) FU (s,((n-1-k+1:Nat):Int))=some (Ex3 (fun m=>Fc6 l (n-1-k+1+m) (n-1-k)) (fun m=>(bk l f n k).getD m 0) s k):=by
  have:=Ab9 (b:=At3 (n:Int) (Z++z::bk l f n k) l d ((n-1-k:Nat):Int)) (fun m=>(Ex3 (fun m=>Fc6 l (n-1-k+1+m) (n-1-k)) (fun m=>(bk l f n k).getD m 0) s m,((n-1-k+1+m:Nat):Int))) (o:=Ex3 (fun m=>Fc6 l (n-1-k+1+m) (n-1-k)) (fun m=>(bk l f n k).getD m 0) s k) k (by rw [Ae6];omega) (fun m hm=>by
    unfold At3
    dsimp only
    rw [Aa6 (by simp;omega),Ab8 0 (by rw [List.length_append,List.length_cons,Cb6];omega),Option.bind_some,Fl1 hn hl (by omega) (by omega)]
    simp only [Option.bind_some]
    rw [Gq7 hZ,wrU (by omega)];rfl) (by
    unfold At3
    dsimp only
    rw [Aa8 (by simp;omega)])
  exact this
theorem Gz1 {l d b:List Nat} {n:Nat} (hn:n≤48) (hl:l.length=tri n) (hd:d.length=n) (hb:b.length=n) :
    Ag0 (As6 b d (n:Int) l) FU ((n:Int)-1,List.replicate n 0)=some (bk l (Eh9 d b) n n):=by
  have:=Ab9 (b:=As6 b d (n:Int) l) (fun k=>((n:Int)-1-(k:Int),List.replicate (n-k) 0++bk l (Eh9 d b) n k)) (o:=bk l (Eh9 d b) n n) n (by rw [Ae6];omega) (fun k hk=>by
    unfold As6
    have e0:(n:Int)-1-(k:Int)=((n-1-k:Nat):Int):=by omega
    have e:List.replicate (n-k) 0++bk l (Eh9 d b) n k=List.replicate (n-1-k) 0++0::bk l (Eh9 d b) n k:=by
      rw [show n-k=(n-1-k)+1 by omega,List.replicate_succ'];simp
    dsimp only
    rw [e0,e,Aa6 (by simp),Ab8 0 (by omega),Option.bind_some,Ab8 0 (by omega),Option.bind_some,Option.bind_some,wrU (by omega),Gz2 hn hl hk (by simp),Option.bind_some,Ab8 0 (by simp [Cb6])]
    simp only [Option.bind_some,Int.toNat_natCast]
    rw [Dc2 (by simp),wrI (by omega) (by omega),show ((n-1-k:Nat):Int)-1=(n:Int)-1-((k+1:Nat):Int) by omega,show n-(k+1)=n-1-k by omega]
    rfl) (by
    unfold As6
    dsimp only
    rw [Aa8 (by simp;omega),Nat.sub_self,List.replicate_zero,List.nil_append])
  simpa [bk] using this
end Go.Eng
/-
  Solving with a factor on the plain side: the code and its reference are one. No condition.
-/
set_option maxRecDepth 100000
set_option maxHeartbeats 4000000
set_option exponentiation.threshold 70000
namespace Go.Eng
open Go
theorem Fo2 (a b:Ieee.Datum):a.order b=(b.order a).map Ordering.swap:=by
  cases a with
  | nan=>cases b<;>rfl
  | infinity s=>
    cases b with
    | nan=>rfl
    | infinity t=>cases s<;>cases t<;>rfl
    | number t n j=>cases s<;>rfl
  | number s m i=>
    cases b with
    | nan=>rfl
    | infinity t=>cases t<;>rfl
    | number t n j=>
      simp only [Ieee.Datum.order,Option.map_some]
      rw [Int.min_comm j i,Int.compare_swap]
theorem Cx6 (x y:Nat):feq x y=feq y x:=by
  unfold feq Ieee.Format.order
  rw [Fo2]
  cases (Ieee.double.read y).order (Ieee.double.read x) with
  | none=>rfl
  | some o=>cases o<;>rfl
theorem Fu4 (q:Int) (l:List Nat) {d:List Nat} (hd:d.length≤4096) :
    ∃ z,Ab5 d (nf 0)=some z∧Az7 q l d=some z∧(z=true→0<d.length):=by
  unfold Ab5 Ad5 Az7
  simp only [Option.bind_some]
  have s1:∀ i,i<d.length→feq (d.getD i 0) (nf 0)=false→Aa7 ((d.length:Nat):Int) d (nf 0) (i:Int)=some (.inl ((i+1:Nat):Int)):=fun i hi h=>by
    unfold Aa7
    dsimp only
    rw [Aa6 (by simp;omega),Ab8 0 hi,Option.bind_some,Option.bind_some,Cx6,h,cF,wrU (by omega)]
  have s2:∀ i,i<d.length→feq (d.getD i 0) (nf 0)=false→Al3 d (i:Int)=some (.inl ((i+1:Nat):Int)):=fun i hi h=>by
    unfold Al3
    simp only [Option.bind_some]
    rw [Aa6 (by simp;omega),Ab8 0 hi,Option.bind_some,h,cF,wrU (by omega)]
  rcases Az2 (fun i=>feq (d.getD i 0) (nf 0)) d.length with h | ⟨i,hi,h1,h2⟩
  · have t1:=Ab9 (b:=Aa7 ((d.length:Nat):Int) d (nf 0)) (fun i=>((i:Nat):Int)) (o := .inl ()) d.length (by rw [Ae6];omega) (fun i hi=>s1 i hi (h i hi)) (by
      unfold Aa7
      dsimp only
      rw [Aa8 (by simp)])
    have t2:=Ab9 (b:=Al3 d) (fun i=>((i:Nat):Int)) (o := .inl ()) d.length (by rw [Ae6];omega) (fun i hi=>s2 i hi (h i hi)) (by
      unfold Al3
      simp only [Option.bind_some]
      rw [Aa8 (by simp)])
    rw [show ((0:Nat):Int)=0 from rfl] at t1 t2
    rw [t1,t2]
    exact ⟨false,rfl,rfl,fun h=>by cases h⟩
  · have t1:=Ab9 (b:=Aa7 ((d.length:Nat):Int) d (nf 0)) (fun i=>((i:Nat):Int)) (o := .inr (i:Int)) i (by rw [Ae6];omega) (fun j hj=>s1 j (by omega) (h2 j hj)) (by
      unfold Aa7
      dsimp only
      rw [Aa6 (by simp;omega),Ab8 0 hi,Option.bind_some,Option.bind_some,Cx6,h1,cT])
    have t2:=Ab9 (b:=Al3 d) (fun i=>((i:Nat):Int)) (o := .inr true) i (by rw [Ae6];omega) (fun j hj=>s2 j (by omega) (h2 j hj)) (by
      unfold Al3
      simp only [Option.bind_some]
      rw [Aa6 (by simp;omega),Ab8 0 hi,Option.bind_some,h1,cT])
    rw [show ((0:Nat):Int)=0 from rfl] at t1 t2
    rw [t1,t2]
    refine ⟨true,?_,rfl,fun _=>by omega⟩
    simp
theorem Fd2 {q k:Int} {l d:List Nat} (h:Ad3 q l d=some false):Ah9 q l d k=some 4:=by
  unfold Ah9;rw [h];rfl
theorem Ec4 {q k:Int} {l d:List Nat} (h:Ad3 q l d=some true) (hk:k≠q):Ah9 q l d k=some 4:=by
  unfold Ah9;rw [h,Option.bind_some];rw [Aa6 (by rfl),Aa6 (by simpa using hk)]
theorem Cx8 {q k:Int} {l d:List Nat} (h:Ad3 q l d=some true) (hk:k=q):Ah9 q l d k=some 0:=by
  unfold Ah9;rw [h,Option.bind_some];rw [Aa6 (by rfl),Aa8 (by simpa using hk)]
theorem Eg3 {l:List Nat} (h:l.length≤4294967296):Ac5 l=some l:=by
  unfold Ac5;rw [Aa6 (by simpa using h)]
theorem En0 {q:Int} {l d b:List Nat} {n:Nat} (hR:Ad3 q l d=some true) (hq:q=n) (hn:n≤48) (hl:l.length=tri n) (hb:b.length=n) :
    Ac6 q l d b=some (fw l b n,0)∧Ah6 q l d b=some (fw l b n,0):=by
  constructor
  · unfold Ac6
    rw [Option.bind_some,Cx8 hR (by omega),Option.bind_some,Aa8 (by rfl),Eg3 (by omega),Option.bind_some,Option.bind_some,Ei4 hn hl hb];rfl
  · unfold Ah6
    rw [Bw7,hR]
    simp only [Option.bind_some,Bool.not_true,Bool.not_false,cT]
    subst hq
    rw [Aa8 (by simp [hb]),Bm3 (by omega),Option.bind_some,Ah1,Fp5 hn hl hb];rfl
theorem Da6 {q:Int} {l d b:List Nat} (h:Ad3 q l d=some false∨Ad3 q l d=some true∧((b.length:Nat):Int)≠q) :
    Ac6 q l d b=some ([],4)∧Ah6 q l d b=some ([],4):=by
  rcases h with h | ⟨h,hb⟩
  · constructor
    · unfold Ac6;rw [Option.bind_some,Fd2 h];rfl
    · unfold Ah6;rw [Bw7,h];rfl
  · constructor
    · unfold Ac6;rw [Option.bind_some,Ec4 h hb];rfl
    · unfold Ah6;rw [Bw7,h]
      simp only [Option.bind_some,Bool.not_true,Bool.not_false,cT]
      rw [Aa6 (by simpa using hb)];rfl
theorem Gd0 {q:Int} {l d b:List Nat} {n:Nat} (hR:Ad3 q l d=some true) (hq:q=n) (hn:n≤48) (hl:l.length=tri n) (hd:d.length=n) (hb:b.length=n) :
    (0<n∧Ab5 d (nf 0)=some true∧Az7 q l d=some true∧Ag1 q l d b=some ([],7)∧Am9 q l d b=some ([],7)) ∨
    (Ab5 d (nf 0)=some false∧Az7 q l d=some false∧Ag1 q l d b=some (bk l (Eh9 d b) n n,0)∧Am9 q l d b=some (bk l (Eh9 d b) n n,0)):=by
  obtain ⟨z,h1,h2,h3⟩:=Fu4 q l (d:=d) (by omega)
  have c:Ag1 q l d b=cond z (some ([],7)) (some (bk l (Eh9 d b) n n,0)):=by
    unfold Ag1
    rw [Option.bind_some,Cx8 hR (by omega),Option.bind_some,Aa8 (by rfl),h1,Option.bind_some,Eg3 (by omega)]
    cases z
    · rw [cF,cF,Option.bind_some,Option.bind_some,Hl3 hn hd hb,Option.bind_some,Option.bind_some,Gr1 hn hl (by simp),Option.bind_some]
      have key:∀ k,k≤n→bk l (fun i=>((List.range n).map (Eh9 d b)).getD i 0) n k=bk l (Eh9 d b) n k:=by
        intro k
        induction k with
        | zero=>intro _;rfl
        | succ k ih=>
          intro hk
          have e:((List.range n).map (Eh9 d b)).getD (n-1-k) 0=Eh9 d b (n-1-k):=by
            simp [List.getD_eq_getElem?_getD,show n-1-k<n by omega]
          unfold bk
          rw [ih (by omega),e]
      have this:=key n (Nat.le_refl _)
      rw [this]
    · rfl
  have r:Am9 q l d b=cond z (some ([],7)) (some (bk l (Eh9 d b) n n,0)):=by
    unfold Am9
    rw [Bw7,hR]
    simp only [Option.bind_some,Bool.not_true,Bool.not_false,cT]
    rw [Aa8 (by simp;omega),h2,Option.bind_some]
    cases z
    · subst hq
      rw [cF,cF,Bm3 (by omega),Option.bind_some,Ah1,wrI (by omega) (by omega),Gz1 hn hl hd hb];rfl
    · rfl
  cases z
  · exact .inr ⟨h1,h2,c,r⟩
  · exact .inl ⟨by have:=h3 rfl;omega,h1,h2,c,r⟩
structure Same2 (f g:Option (List Nat×Int)) (n:Nat):Prop where
  eq:f=g
  is:∃ x e,f=some (x,e)∧x.length≤48∧(e=0→x.length=n)
theorem Ev2 (q:Int) (l d:List Nat) {b:List Nat}:Same2 (Ac6 q l d b) (Ah6 q l d b) b.length:=by
  rcases Bg8 q l d with ⟨hR,n,hq,hn,hl,hd⟩ | hR
  · by_cases hb:b.length=n
    · obtain ⟨h1,h2⟩:=En0 hR hq hn hl hb
      exact ⟨h1.trans h2.symm,_,_,h1,by rw [Bp7];exact hn,fun _=>by rw [Bp7,hb]⟩
    · obtain ⟨h1,h2⟩:=Da6 (q:=q) (l:=l) (d:=d) (b:=b) (.inr ⟨hR,by omega⟩)
      exact ⟨h1.trans h2.symm,_,_,h1,by simp,fun h=>by cases h⟩
  · obtain ⟨h1,h2⟩:=Da6 (q:=q) (l:=l) (d:=d) (b:=b) (.inl hR)
    exact ⟨h1.trans h2.symm,_,_,h1,by simp,fun h=>by cases h⟩
theorem Fk6 {q:Int} {l d b:List Nat} (h:Ad3 q l d=some false∨Ad3 q l d=some true∧((b.length:Nat):Int)≠q) :
    Ag1 q l d b=some ([],4)∧Am9 q l d b=some ([],4):=by
  rcases h with h | ⟨h,hb⟩
  · constructor
    · unfold Ag1;rw [Option.bind_some,Fd2 h];rfl
    · unfold Am9;rw [Bw7,h];rfl
  · constructor
    · unfold Ag1;rw [Option.bind_some,Ec4 h hb];rfl
    · unfold Am9;rw [Bw7,h]
      simp only [Option.bind_some,Bool.not_true,Bool.not_false,cT]
      rw [Aa6 (by simpa using hb)];rfl
theorem Fw0 (q:Int) (l d:List Nat) {b:List Nat}:Same2 (Ag1 q l d b) (Am9 q l d b) b.length:=by
  rcases Bg8 q l d with ⟨hR,n,hq,hn,hl,hd⟩ | hR
  · by_cases hb:b.length=n
    · rcases Gd0 hR hq hn hl hd hb with ⟨_,_,_,h1,h2⟩ | ⟨_,_,h1,h2⟩
      · exact ⟨h1.trans h2.symm,_,_,h1,by simp,fun h=>by cases h⟩
      · exact ⟨h1.trans h2.symm,_,_,h1,by rw [Cb6];exact hn,fun _=>by rw [Cb6,hb]⟩
    · obtain ⟨h1,h2⟩:=Fk6 (q:=q) (l:=l) (d:=d) (b:=b) (.inr ⟨hR,by omega⟩)
      exact ⟨h1.trans h2.symm,_,_,h1,by simp,fun h=>by cases h⟩
  · obtain ⟨h1,h2⟩:=Fk6 (q:=q) (l:=l) (d:=d) (b:=b) (.inl hR)
    exact ⟨h1.trans h2.symm,_,_,h1,by simp,fun h=>by cases h⟩
theorem Ds1 (q:Int) (l d:List Nat) {b:List Nat}:Same2 (Ah4 q l d b) (Ar7 q l d b) b.length:=by
  unfold Ah4 Ar7
  obtain ⟨h1,x,e,h2,h3,h4⟩:=Ev2 q l d (b:=b)
  rw [← h1,h2,Option.bind_some,Option.bind_some]
  dsimp only
  by_cases he:e=0
  · subst he
    rw [Aa8 (by rfl),Aa8 (by rfl)]
    obtain ⟨k1,y,f,k2,k3,k4⟩:=Fw0 q l d (b:=x)
    rw [← k1,k2]
    exact ⟨rfl,y,f,rfl,k3,fun h=>by rw [k4 h,h4 rfl]⟩
  · rw [Aa6 (by simpa using he),Aa6 (by simpa using he)]
    exact ⟨rfl,[],e,rfl,by simp,fun h=>absurd h he⟩
end Go.Eng
