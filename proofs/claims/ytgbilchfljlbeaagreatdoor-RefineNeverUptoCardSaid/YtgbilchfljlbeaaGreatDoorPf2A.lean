
/-
  Solving with a factor on the plain side: what the twins of the package solve and of its reference come to. No condition.
-/
import Derived.Test.YtgbilchfljlbeaaGreatDoorPmA
import Derived.Test.YtgbilchfljlbeaaGreatDoorFl2
import Derived.Test.YtgbilchfljlbeaaGreatDoorFlz3
set_option linter.all false
set_option maxRecDepth 100000
set_option maxHeartbeats 4000000
namespace Go.Eng
open Go
def tri (n:Nat):Nat:=n*(n-1)/2
theorem tri_succ (n:Nat):tri (n+1)=tri n+n:=by
  cases n with
  | zero=>rfl
  | succ n =>
    unfold tri
    have:(n+1+1)*(n+1+1-1)=(n+1)*(n+1-1)+(n+1)*2:=by
      simp only [Nat.add_sub_cancel]
      rw [← Nat.mul_add,Nat.mul_comm]
    rw [this,Nat.add_mul_div_right _ _ (by omega)]
theorem tri_mono {i n:Nat} (h:i≤n):tri i≤tri n:=by
  induction n with
  | zero => have : i = 0 := by omega
            subst this;exact Nat.le_refl _
  | succ n ih =>
    by_cases e:i=n+1
    · subst e;exact Nat.le_refl _
    · have:=ih (by omega)
      rw [tri_succ];omega
theorem tri_lt {i j n:Nat} (hj:j<i) (hi:i<n):tri i+j<tri n:=by
  have:=tri_mono (show i+1≤n by omega)
  rw [tri_succ] at this
  omega
theorem tri_le {n:Nat} (h:n≤48):tri n≤1128:=tri_mono h
theorem triIdx {i j:Nat} (hj:j<i) (hi:i<4096):IntKind.i64.wrap ((IntKind.i64.wrap ((IntKind.i64.wrap ((i:Int)*(IntKind.i64.wrap ((i:Int)-1)))).tdiv 2))+(j:Int))=((tri i+j:Nat):Int):=by
  have e1:IntKind.i64.wrap ((i:Int)-1)=((i-1:Nat):Int):=by rw [wrI (by omega) (by omega)];omega
  have hb:i*(i-1)≤4096*4096:=Nat.mul_le_mul (by omega) (by omega)
  have e2:(((i*(i-1):Nat):Int)).tdiv 2=((tri i:Nat):Int):=rfl
  have ht:tri i≤4096*4096:=Nat.le_trans (Nat.div_le_self _ _) hb
  rw [e1,wrMul (by omega),e2,wrN (by omega),wrAdd (by omega)]
def lowG (l:List Nat) (i j:Nat):Nat:=l.getD (tri i+j) 0
theorem below_t {q:Int} {l d:List Nat} {n i j:Nat} (hn:n≤48) (hl:l.length=tri n) (hj:j<i) (hi:i<n):T_solve_below q l d (i:Int) (j:Int)=some (lowG l i j):=by
  unfold T_solve_below
  rw [triIdx hj (by omega),at_getD 0 (by rw [hl];exact tri_lt hj hi)];rfl
theorem right_cases (q:Int) (l d:List Nat):(T_lower_Right q l d=some true∧∃ n:Nat,q=n∧n≤48∧l.length=tri n∧d.length=n)∨T_lower_Right q l d=some false:=by
  unfold T_lower_Right
  by_cases h0:0≤q
  · rw [cond_t (by simpa using h0)]
    by_cases h1:q≤48
    · rw [cond_t (by simpa using h1)]
      obtain ⟨n,rfl⟩:=Int.eq_ofNat_of_zero_le h0
      have hn:n≤48:=by omega
      simp only [Option.bind_some]
      have e:IntKind.i64.wrap ((IntKind.i64.wrap ((n:Int)*(IntKind.i64.wrap ((n:Int)-1)))).tdiv 2)=((tri n:Nat):Int):=by
        cases n with
        | zero=>decide
        | succ n =>
          have e1:IntKind.i64.wrap (((n+1:Nat):Int)-1)=((n+1-1:Nat):Int):=by rw [wrI (by omega) (by omega)];omega
          have hb:(n+1)*(n+1-1)≤48*48:=Nat.mul_le_mul (by omega) (by omega)
          have e2:((((n+1)*(n+1-1):Nat):Int)).tdiv 2=((tri (n+1):Nat):Int):=rfl
          have:=tri_le hn
          rw [e1,wrMul (by omega),e2,wrN (by omega)]
      rw [e]
      by_cases h2:l.length=tri n
      · rw [cond_t (by simp [h2])]
        by_cases h3:d.length=n
        · refine .inl ⟨by simp [h3],n,rfl,hn,h2,h3⟩
        · refine .inr ?_
          have:((d.length:Nat):Int)≠n:=by omega
          simp [this]
      · refine .inr ?_
        have:((l.length:Nat):Int)≠(tri n:Nat):=by omega
        rw [cond_f (by simpa using this)]
    · rw [cond_f (by simpa using h1)];exact .inr rfl
  · rw [cond_f (by simpa using h0)];exact .inr rfl
theorem app_lt {p r:List Nat} {j:Nat} (h:j<p.length):(p++r).getD j 0=p.getD j 0:=by
  simp [List.getD_eq_getElem?_getD,List.getElem?_append_left h]
theorem app_eq {p r:List Nat} {x i:Nat} (h:p.length=i):(p++x::r).getD i 0=x:=by
  subst h;simp [List.getD_eq_getElem?_getD]
theorem app_gt {p r:List Nat} {x i m:Nat} (h:p.length=i):(p++x::r).getD (i+1+m) 0=r.getD m 0:=by
  subst h
  rw [List.getD_eq_getElem?_getD,List.getD_eq_getElem?_getD,List.getElem?_append_right (by omega)]
  rw [show p.length+1+m-p.length=m+1 by omega,List.getElem?_cons_succ]
theorem app_set {p r:List Nat} {x y i:Nat} (h:p.length=i):(p++x::r).set i y=p++y::r:=by
  subst h;simp
theorem drop_cons {l:List Nat} {i:Nat} (h:i<l.length):l.drop i=l.getD i 0::l.drop (i+1):=by
  rw [List.drop_eq_getElem_cons h,List.getD_eq_getElem?_getD,List.getElem?_eq_getElem h];rfl
theorem take_last {l:List Nat} {i:Nat} (h:i<l.length):l.take (i+1)=l.take i ++ [l.getD i 0]:=by
  rw [List.take_add_one,List.getElem?_eq_getElem h,List.getD_eq_getElem?_getD,List.getElem?_eq_getElem h];rfl
def subN (f g:Nat→Nat) (s:Nat):Nat→Nat
  | 0=>s
  | j+1=>fsub (subN f g s j) (fmul (f j) (g j))
def fw (l b:List Nat):Nat→List Nat
  | 0=>[]
  | i+1=>fw l b i ++ [subN (fun j=>lowG l i j) (fun j=>(fw l b i).getD j 0) (b.getD i 0) i]
theorem fw_len (l b:List Nat):∀ i,(fw l b i).length=i
  | 0=>rfl
  | i+1=>by simp [fw,fw_len l b i]
theorem fw_row {q:Int} {l d b:List Nat} {n i:Nat} (hn:n≤48) (hl:l.length=tri n) (hb:b.length=n) (hi:i<n) :
    iter (T_solve_Forward_b9 (i:Int) q l d) FU (0,fw l b i++b.drop i)=some (fw l b (i+1)++b.drop (i+1)):=by
  have:=iter_nat (b:=T_solve_Forward_b9 (i:Int) q l d) (fun j=>(((j:Nat):Int),fw l b i++subN (fun j=>lowG l i j) (fun j=>(fw l b i).getD j 0) (b.getD i 0) j::b.drop (i+1))) (o:=fw l b (i+1)++b.drop (i+1)) i (by rw [FU_eq];omega) (fun j hj=>by
    unfold T_solve_Forward_b9
    dsimp only
    have len:(fw l b i++subN (fun j=>lowG l i j) (fun j=>(fw l b i).getD j 0) (b.getD i 0) j::b.drop (i+1)).length=n:=by simp [fw_len,hb];omega
    rw [cond_t (by simp;omega),at_getD 0 (by rw [len];exact hi),Option.bind_some,at_getD 0 (by rw [len];omega),Option.bind_some,below_t hn hl hj hi]
    simp only [Option.bind_some,Int.toNat_natCast]
    rw [app_eq (fw_len l b i),app_lt (by rw [fw_len];exact hj),app_set (fw_len l b i),wrU (by omega)];rfl) (by
    unfold T_solve_Forward_b9
    dsimp only
    rw [cond_f (by simp)]
    simp [fw])
  rw [drop_cons (l:=b) (i:=i) (by omega)]
  exact this
theorem forward_t {q:Int} {l d b:List Nat} {n:Nat} (hn:n≤48) (hl:l.length=tri n) (hb:b.length=n) :
    iter (T_solve_Forward_b7 ((b.length:Nat):Int) q l d) FU (0,b)=some (fw l b n):=by
  have:=iter_nat (b:=T_solve_Forward_b7 ((b.length:Nat):Int) q l d) (fun i=>(((i:Nat):Int),fw l b i++b.drop i)) (o:=fw l b n) n (by rw [FU_eq];omega) (fun i hi=>by
    unfold T_solve_Forward_b7
    dsimp only
    rw [cond_t (by simp;omega),fw_row hn hl hb hi,Option.bind_some,wrU (by omega)]) (by
    unfold T_solve_Forward_b7
    dsimp only
    rw [cond_f (by simp;omega),List.drop_of_length_le (by omega),List.append_nil])
  exact this
def quoG (d b:List Nat) (i:Nat):Nat:=fdiv (b.getD i 0) (d.getD i 0)
def bk (l:List Nat) (q:Nat→Nat) (n:Nat):Nat→List Nat
  | 0=>[]
  | k+1=>subN (fun m=>lowG l (n-1-k+1+m) (n-1-k)) (fun m=>(bk l q n k).getD m 0) (q (n-1-k)) k::bk l q n k
theorem bk_len (l:List Nat) (q:Nat→Nat) (n:Nat):∀ k,(bk l q n k).length=k
  | 0=>rfl
  | k+1=>by simp [bk,bk_len l q n k]
theorem quo_t {d b:List Nat} {n:Nat} (hn:n≤48) (hd:d.length=n) (hb:b.length=n) :
    iter (T_solve_Back_b2 ((d.length:Nat):Int) d) FU (0,b)=some ((List.range n).map (quoG d b)):=by
  have st:∀ i,i≤n→((List.range i).map (quoG d b)++b.drop i).length=n:=fun i hi=>by simp [hb];omega
  have:=iter_nat (b:=T_solve_Back_b2 ((d.length:Nat):Int) d) (fun i=>(((i:Nat):Int),(List.range i).map (quoG d b)++b.drop i)) (o:=(List.range n).map (quoG d b)) n (by rw [FU_eq];omega) (fun i hi=>by
    unfold T_solve_Back_b2
    dsimp only
    rw [cond_t (by simp;omega),at_getD 0 (by omega),Option.bind_some,at_getD 0 (by rw [st i (by omega)];exact hi)]
    simp only [Option.bind_some,Int.toNat_natCast]
    rw [drop_cons (l:=b) (by omega),app_eq (by simp),app_set (by simp),wrU (by omega),← map_range_snoc]
    simp [quoG]) (by
    unfold T_solve_Back_b2
    dsimp only
    rw [cond_f (by simp;omega),List.drop_of_length_le (by omega),List.append_nil])
  exact this
theorem bk_row {q:Int} {l d Q:List Nat} {n k:Nat} (hn:n≤48) (hl:l.length=tri n) (hQ:Q.length=n) (hk:k<n) :
    iter (T_solve_Back_b11 (n:Int) (k:Int) q l d) FU (((n-1-k+1:Nat):Int),Q.take (n-k)++bk l (fun i=>Q.getD i 0) n k)=some (Q.take (n-(k+1))++bk l (fun i=>Q.getD i 0) n (k+1)):=by
  have e1:IntKind.i64.wrap ((IntKind.i64.wrap ((n:Int)-1))-(k:Int))=((n-1-k:Nat):Int):=by
    rw [wrI (n:=(n:Int)-1) (by omega) (by omega),wrI (by omega) (by omega)];omega
  have tl:(Q.take (n-(k+1))).length=n-1-k:=by simp;omega
  have split:Q.take (n-k)++bk l (fun i=>Q.getD i 0) n k=Q.take (n-(k+1))++Q.getD (n-1-k) 0::bk l (fun i=>Q.getD i 0) n k:=by
    rw [show n-k=(n-1-k)+1 by omega,take_last (by omega),show n-(k+1)=n-1-k by omega];simp
  have:=iter_nat (b:=T_solve_Back_b11 (n:Int) (k:Int) q l d) (fun m=>(((n-1-k+1+m:Nat):Int),Q.take (n-(k+1))++subN (fun m=>lowG l (n-1-k+1+m) (n-1-k)) (fun m=>(bk l (fun i=>Q.getD i 0) n k).getD m 0) (Q.getD (n-1-k) 0) m::bk l (fun i=>Q.getD i 0) n k)) (o:=Q.take (n-(k+1))++bk l (fun i=>Q.getD i 0) n (k+1)) k (by rw [FU_eq];omega) (fun m hm=>by
    unfold T_solve_Back_b11
    have len:(Q.take (n-(k+1))++subN (fun m=>lowG l (n-1-k+1+m) (n-1-k)) (fun m=>(bk l (fun i=>Q.getD i 0) n k).getD m 0) (Q.getD (n-1-k) 0) m::bk l (fun i=>Q.getD i 0) n k).length=n:=by
      rw [List.length_append,List.length_cons,bk_len,tl];omega
    simp only [Option.bind_some,e1,len]
    rw [cond_t (by simp;omega),at_getD 0 (by rw [len];omega),Option.bind_some,at_getD 0 (by rw [len];omega),Option.bind_some,below_t hn hl (by omega) (by omega)]
    simp only [Option.bind_some,Int.toNat_natCast]
    rw [app_eq tl,app_gt tl,app_set tl,wrU (by omega)];rfl) (by
    unfold T_solve_Back_b11
    have len:(Q.take (n-(k+1))++subN (fun m=>lowG l (n-1-k+1+m) (n-1-k)) (fun m=>(bk l (fun i=>Q.getD i 0) n k).getD m 0) (Q.getD (n-1-k) 0) k::bk l (fun i=>Q.getD i 0) n k).length=n:=by
      rw [List.length_append,List.length_cons,bk_len,tl];omega
    simp only [Option.bind_some,len]
    rw [cond_f (by simp;omega)]
    rfl)
  rw [split]
  exact this
theorem back_t {q:Int} {l d Q:List Nat} {n:Nat} (hn:n≤48) (hl:l.length=tri n) (hQ:Q.length=n) :
    iter (T_solve_Back_b9 ((Q.length:Nat):Int) q l d) FU (0,Q)=some (bk l (fun i=>Q.getD i 0) n n):=by
  have:=iter_nat (b:=T_solve_Back_b9 ((Q.length:Nat):Int) q l d) (fun k=>(((k:Nat):Int),Q.take (n-k)++bk l (fun i=>Q.getD i 0) n k)) (o:=bk l (fun i=>Q.getD i 0) n n) n (by rw [FU_eq];omega) (fun k hk=>by
    unfold T_solve_Back_b9
    have len:(Q.take (n-k)++bk l (fun i=>Q.getD i 0) n k).length=n:=by rw [List.length_append,bk_len,List.length_take];omega
    have e1:IntKind.i64.wrap ((IntKind.i64.wrap ((IntKind.i64.wrap ((n:Int)-1))-(k:Int)))+1)=((n-1-k+1:Nat):Int):=by
      rw [wrI (n:=(n:Int)-1) (by omega) (by omega),wrI (n:=(n:Int)-1-k) (by omega) (by omega),wrI (by omega) (by omega)];omega
    simp only [Option.bind_some,len,e1]
    rw [cond_t (by simp;omega),bk_row hn hl hQ hk,Option.bind_some,wrU (by omega)]) (by
    unfold T_solve_Back_b9
    dsimp only
    rw [cond_f (by simp;omega),Nat.sub_self,List.take_zero,List.nil_append])
  rw [Nat.sub_zero,show Q.take n=Q by rw [← hQ,List.take_length]] at this
  simpa [bk] using this
end Go.Eng
/-
  Solving with a factor on the plain side: the code and its reference are one. No condition.
-/
set_option maxRecDepth 100000
set_option maxHeartbeats 4000000
set_option exponentiation.threshold 70000
namespace Go.Eng
open Go
theorem datum_swap (a b:Ieee.Datum):a.order b=(b.order a).map Ordering.swap:=by
  cases a with
  | nan=>cases b<;>rfl
  | infinity s =>
    cases b with
    | nan=>rfl
    | infinity t=>cases s<;>cases t<;>rfl
    | number t n j=>cases s<;>rfl
  | number s m i =>
    cases b with
    | nan=>rfl
    | infinity t=>cases t<;>rfl
    | number t n j =>
      simp only [Ieee.Datum.order,Option.map_some]
      rw [Int.min_comm j i,Int.compare_swap]
theorem feq_comm (x y:Nat):feq x y=feq y x:=by
  unfold feq Ieee.Format.order
  rw [datum_swap]
  cases (Ieee.double.read y).order (Ieee.double.read x) with
  | none=>rfl
  | some o=>cases o<;>rfl
theorem fits_no {q k:Int} {l d:List Nat} (h:T_lower_Right q l d=some false):T_solve_fits q l d k=some 4:=by
  unfold T_solve_fits;rw [h];rfl
theorem fits_off {q k:Int} {l d:List Nat} (h:T_lower_Right q l d=some true) (hk:k≠q):T_solve_fits q l d k=some 4:=by
  unfold T_solve_fits;rw [h,Option.bind_some];rw [cond_t (by rfl),cond_t (by simpa using hk)]
theorem fits_yes {q k:Int} {l d:List Nat} (h:T_lower_Right q l d=some true) (hk:k=q):T_solve_fits q l d k=some 0:=by
  unfold T_solve_fits;rw [h,Option.bind_some];rw [cond_t (by rfl),cond_f (by simpa using hk)]
theorem clone_t {l:List Nat} (h:l.length≤4294967296):T_slices_Clone___float64_float64 l=some l:=by
  unfold T_slices_Clone___float64_float64;rw [cond_t (by simpa using h)]
end Go.Eng
