
/-
  Solving with a factor on the plain side: what the twins of the package solve and of its reference come to. No condition.
-/
import Derived.Test.YtgbilchfljlbeaaGreatDoorPmA
import Derived.Test.YtgbilchfljlbeaaGreatDoorFl2
import Derived.Test.YtgbilchfljlbeaaGreatDoorFlz3
set_option linter.all false
set_option maxRecDepth 100000
set_option maxHeartbeats 4000000
namespace Go.Eng
open Go
def tri (n:Nat):Nat:=n*(n-1)/2
theorem tri_succ (n:Nat):tri (n+1)=tri n+n:=by
  cases n with
  | zero=>rfl
  | succ n =>
    unfold tri
    have:(n+1+1)*(n+1+1-1)=(n+1)*(n+1-1)+(n+1)*2:=by
      simp only [Nat.add_sub_cancel]
      rw [← Nat.mul_add,Nat.mul_comm]
    rw [this,Nat.add_mul_div_right _ _ (by omega)]
theorem tri_mono {i n:Nat} (h:i≤n):tri i≤tri n:=by
  induction n with
  | zero => have : i = 0 := by omega
            subst this;exact Nat.le_refl _
  | succ n ih =>
    by_cases e:i=n+1
    · subst e;exact Nat.le_refl _
    · have:=ih (by omega)
      rw [tri_succ];omega
theorem tri_lt {i j n:Nat} (hj:j<i) (hi:i<n):tri i+j<tri n:=by
  have:=tri_mono (show i+1≤n by omega)
  rw [tri_succ] at this
  omega
theorem tri_le {n:Nat} (h:n≤48):tri n≤1128:=tri_mono h
theorem triIdx {i j:Nat} (hj:j<i) (hi:i<4096):IntKind.i64.wrap ((IntKind.i64.wrap ((IntKind.i64.wrap ((i:Int)*(IntKind.i64.wrap ((i:Int)-1)))).tdiv 2))+(j:Int))=((tri i+j:Nat):Int):=by
  have e1:IntKind.i64.wrap ((i:Int)-1)=((i-1:Nat):Int):=by rw [wrI (by omega) (by omega)];omega
  have hb:i*(i-1)≤4096*4096:=Nat.mul_le_mul (by omega) (by omega)
  have e2:(((i*(i-1):Nat):Int)).tdiv 2=((tri i:Nat):Int):=rfl
  have ht:tri i≤4096*4096:=Nat.le_trans (Nat.div_le_self _ _) hb
  rw [e1,wrMul (by omega),e2,wrN (by omega),wrAdd (by omega)]
def lowG (l:List Nat) (i j:Nat):Nat:=l.getD (tri i+j) 0
theorem below_t {q:Int} {l d:List Nat} {n i j:Nat} (hn:n≤48) (hl:l.length=tri n) (hj:j<i) (hi:i<n):T_solve_below q l d (i:Int) (j:Int)=some (lowG l i j):=by
  unfold T_solve_below
  rw [triIdx hj (by omega),at_getD 0 (by rw [hl];exact tri_lt hj hi)];rfl
theorem rbelow_t {q:Int} {l d:List Nat} {n i j:Nat} (hn:n≤48) (hl:l.length=tri n) (hj:j<i) (hi:i<n):T_r13_at q l d (i:Int) (j:Int)=some (lowG l i j):=below_t (q:=q) (d:=d) hn hl hj hi
theorem right_cases (q:Int) (l d:List Nat):(T_lower_Right q l d=some true∧∃ n:Nat,q=n∧n≤48∧l.length=tri n∧d.length=n)∨T_lower_Right q l d=some false:=by
  unfold T_lower_Right
  by_cases h0:0≤q
  · rw [cond_t (by simpa using h0)]
    by_cases h1:q≤48
    · rw [cond_t (by simpa using h1)]
      obtain ⟨n,rfl⟩:=Int.eq_ofNat_of_zero_le h0
      have hn:n≤48:=by omega
      simp only [Option.bind_some]
      have e:IntKind.i64.wrap ((IntKind.i64.wrap ((n:Int)*(IntKind.i64.wrap ((n:Int)-1)))).tdiv 2)=((tri n:Nat):Int):=by
        cases n with
        | zero=>decide
        | succ n =>
          have e1:IntKind.i64.wrap (((n+1:Nat):Int)-1)=((n+1-1:Nat):Int):=by rw [wrI (by omega) (by omega)];omega
          have hb:(n+1)*(n+1-1)≤48*48:=Nat.mul_le_mul (by omega) (by omega)
          have e2:((((n+1)*(n+1-1):Nat):Int)).tdiv 2=((tri (n+1):Nat):Int):=rfl
          have:=tri_le hn
          rw [e1,wrMul (by omega),e2,wrN (by omega)]
      rw [e]
      by_cases h2:l.length=tri n
      · rw [cond_t (by simp [h2])]
        by_cases h3:d.length=n
        · refine .inl ⟨by simp [h3],n,rfl,hn,h2,h3⟩
        · refine .inr ?_
          have:((d.length:Nat):Int)≠n:=by omega
          simp [this]
      · refine .inr ?_
        have:((l.length:Nat):Int)≠(tri n:Nat):=by omega
        rw [cond_f (by simpa using this)]
    · rw [cond_f (by simpa using h1)];exact .inr rfl
  · rw [cond_f (by simpa using h0)];exact .inr rfl
theorem rright13 (q:Int) (l d:List Nat):T_r13_Right q l d=T_lower_Right q l d:=rfl
theorem app_lt {p r:List Nat} {j:Nat} (h:j<p.length):(p++r).getD j 0=p.getD j 0:=by
  simp [List.getD_eq_getElem?_getD,List.getElem?_append_left h]
theorem app_eq {p r:List Nat} {x i:Nat} (h:p.length=i):(p++x::r).getD i 0=x:=by
  subst h;simp [List.getD_eq_getElem?_getD]
theorem app_gt {p r:List Nat} {x i m:Nat} (h:p.length=i):(p++x::r).getD (i+1+m) 0=r.getD m 0:=by
  subst h
  rw [List.getD_eq_getElem?_getD,List.getD_eq_getElem?_getD,List.getElem?_append_right (by omega)]
  rw [show p.length+1+m-p.length=m+1 by omega,List.getElem?_cons_succ]
theorem app_set {p r:List Nat} {x y i:Nat} (h:p.length=i):(p++x::r).set i y=p++y::r:=by
  subst h;simp
theorem drop_cons {l:List Nat} {i:Nat} (h:i<l.length):l.drop i=l.getD i 0::l.drop (i+1):=by
  rw [List.drop_eq_getElem_cons h,List.getD_eq_getElem?_getD,List.getElem?_eq_getElem h];rfl
theorem take_last {l:List Nat} {i:Nat} (h:i<l.length):l.take (i+1)=l.take i ++ [l.getD i 0]:=by
  rw [List.take_add_one,List.getElem?_eq_getElem h,List.getD_eq_getElem?_getD,List.getElem?_eq_getElem h];rfl
def subN (f g:Nat→Nat) (s:Nat):Nat→Nat
  | 0=>s
  | j+1=>fsub (subN f g s j) (fmul (f j) (g j))
def fw (l b:List Nat):Nat→List Nat
  | 0=>[]
  | i+1=>fw l b i ++ [subN (fun j=>lowG l i j) (fun j=>(fw l b i).getD j 0) (b.getD i 0) i]
theorem fw_len (l b:List Nat):∀ i,(fw l b i).length=i
  | 0=>rfl
  | i+1=>by simp [fw,fw_len l b i]
theorem fw_row {q:Int} {l d b:List Nat} {n i:Nat} (hn:n≤48) (hl:l.length=tri n) (hb:b.length=n) (hi:i<n) :
    iter (T_solve_Forward_b9 (i:Int) q l d) FU (0,fw l b i++b.drop i)=some (fw l b (i+1)++b.drop (i+1)):=by
  have:=iter_nat (b:=T_solve_Forward_b9 (i:Int) q l d) (fun j=>(((j:Nat):Int),fw l b i++subN (fun j=>lowG l i j) (fun j=>(fw l b i).getD j 0) (b.getD i 0) j::b.drop (i+1))) (o:=fw l b (i+1)++b.drop (i+1)) i (by rw [FU_eq];omega) (fun j hj=>by
    unfold T_solve_Forward_b9
    dsimp only
    have len:(fw l b i++subN (fun j=>lowG l i j) (fun j=>(fw l b i).getD j 0) (b.getD i 0) j::b.drop (i+1)).length=n:=by simp [fw_len,hb];omega
    rw [cond_t (by simp;omega),at_getD 0 (by rw [len];exact hi),Option.bind_some,at_getD 0 (by rw [len];omega),Option.bind_some,below_t hn hl hj hi]
    simp only [Option.bind_some,Int.toNat_natCast]
    rw [app_eq (fw_len l b i),app_lt (by rw [fw_len];exact hj),app_set (fw_len l b i),wrU (by omega)];rfl) (by
    unfold T_solve_Forward_b9
    dsimp only
    rw [cond_f (by simp)]
    simp [fw])
  rw [drop_cons (l:=b) (i:=i) (by omega)]
  exact this
theorem forward_t {q:Int} {l d b:List Nat} {n:Nat} (hn:n≤48) (hl:l.length=tri n) (hb:b.length=n) :
    iter (T_solve_Forward_b7 ((b.length:Nat):Int) q l d) FU (0,b)=some (fw l b n):=by
  have:=iter_nat (b:=T_solve_Forward_b7 ((b.length:Nat):Int) q l d) (fun i=>(((i:Nat):Int),fw l b i++b.drop i)) (o:=fw l b n) n (by rw [FU_eq];omega) (fun i hi=>by
    unfold T_solve_Forward_b7
    dsimp only
    rw [cond_t (by simp;omega),fw_row hn hl hb hi,Option.bind_some,wrU (by omega)]) (by
    unfold T_solve_Forward_b7
    dsimp only
    rw [cond_f (by simp;omega),List.drop_of_length_le (by omega),List.append_nil])
  exact this
theorem rfw_row {q:Int} {l d b r:List Nat} {n i:Nat} (hn:n≤48) (hl:l.length=tri n) (hi:i<n) (s:Nat) :
    iter (T_r13_Forward_b9 (i:Int) (fw l b i++r) q l d) FU (s,0)=some (subN (fun j=>lowG l i j) (fun j=>(fw l b i).getD j 0) s i):=by
  exact iter_nat (b:=T_r13_Forward_b9 (i:Int) (fw l b i++r) q l d) (fun j=>(subN (fun j=>lowG l i j) (fun j=>(fw l b i).getD j 0) s j,((j:Nat):Int))) (o:=subN (fun j=>lowG l i j) (fun j=>(fw l b i).getD j 0) s i) i (by rw [FU_eq];omega) (fun j hj=>by
    unfold T_r13_Forward_b9
    dsimp only
    rw [cond_t (by simp;omega),at_getD 0 (by rw [List.length_append,fw_len];omega),Option.bind_some,rbelow_t hn hl hj hi]
    simp only [Option.bind_some]
    rw [app_lt (by rw [fw_len];exact hj),wrU (by omega)];rfl) (by
    unfold T_r13_Forward_b9
    dsimp only
    rw [cond_f (by simp)])
theorem rforward_t {l d b:List Nat} {n:Nat} (hn:n≤48) (hl:l.length=tri n) (hb:b.length=n) :
    iter (T_r13_Forward_b7 (n:Int) b l d) FU (0,List.replicate n 0)=some (fw l b n):=by
  have:=iter_nat (b:=T_r13_Forward_b7 (n:Int) b l d) (fun i=>(((i:Nat):Int),fw l b i++List.replicate (n-i) 0)) (o:=fw l b n) n (by rw [FU_eq];omega) (fun i hi=>by
    unfold T_r13_Forward_b7
    dsimp only
    have e:List.replicate (n-i) 0=0::List.replicate (n-(i+1)) 0:=by rw [show n-i=(n-(i+1))+1 by omega,List.replicate_succ]
    rw [cond_t (by simp;omega),at_getD 0 (by omega),Option.bind_some,rfw_row hn hl hi,Option.bind_some,at_getD 0 (by simp [fw_len];omega),Option.bind_some,e]
    simp only [Option.bind_some,Int.toNat_natCast]
    rw [app_set (fw_len l b i),wrU (by omega)]
    simp [fw]) (by
    unfold T_r13_Forward_b7
    dsimp only
    rw [cond_f (by simp),Nat.sub_self,List.replicate_zero,List.append_nil])
  exact this
def quoG (d b:List Nat) (i:Nat):Nat:=fdiv (b.getD i 0) (d.getD i 0)
def bk (l:List Nat) (q:Nat→Nat) (n:Nat):Nat→List Nat
  | 0=>[]
  | k+1=>subN (fun m=>lowG l (n-1-k+1+m) (n-1-k)) (fun m=>(bk l q n k).getD m 0) (q (n-1-k)) k::bk l q n k
theorem bk_len (l:List Nat) (q:Nat→Nat) (n:Nat):∀ k,(bk l q n k).length=k
  | 0=>rfl
  | k+1=>by simp [bk,bk_len l q n k]
theorem quo_t {d b:List Nat} {n:Nat} (hn:n≤48) (hd:d.length=n) (hb:b.length=n) :
    iter (T_solve_Back_b2 ((d.length:Nat):Int) d) FU (0,b)=some ((List.range n).map (quoG d b)):=by
  have st:∀ i,i≤n→((List.range i).map (quoG d b)++b.drop i).length=n:=fun i hi=>by simp [hb];omega
  have:=iter_nat (b:=T_solve_Back_b2 ((d.length:Nat):Int) d) (fun i=>(((i:Nat):Int),(List.range i).map (quoG d b)++b.drop i)) (o:=(List.range n).map (quoG d b)) n (by rw [FU_eq];omega) (fun i hi=>by
    unfold T_solve_Back_b2
    dsimp only
    rw [cond_t (by simp;omega),at_getD 0 (by omega),Option.bind_some,at_getD 0 (by rw [st i (by omega)];exact hi)]
    simp only [Option.bind_some,Int.toNat_natCast]
    rw [drop_cons (l:=b) (by omega),app_eq (by simp),app_set (by simp),wrU (by omega),← map_range_snoc]
    simp [quoG]) (by
    unfold T_solve_Back_b2
    dsimp only
    rw [cond_f (by simp;omega),List.drop_of_length_le (by omega),List.append_nil])
  exact this
theorem bk_row {q:Int} {l d Q:List Nat} {n k:Nat} (hn:n≤48) (hl:l.length=tri n) (hQ:Q.length=n) (hk:k<n) :
    iter (T_solve_Back_b11 (n:Int) (k:Int) q l d) FU (((n-1-k+1:Nat):Int),Q.take (n-k)++bk l (fun i=>Q.getD i 0) n k)=some (Q.take (n-(k+1))++bk l (fun i=>Q.getD i 0) n (k+1)):=by
  have e1:IntKind.i64.wrap ((IntKind.i64.wrap ((n:Int)-1))-(k:Int))=((n-1-k:Nat):Int):=by
    rw [wrI (n:=(n:Int)-1) (by omega) (by omega),wrI (by omega) (by omega)];omega
  have tl:(Q.take (n-(k+1))).length=n-1-k:=by simp;omega
  have split:Q.take (n-k)++bk l (fun i=>Q.getD i 0) n k=Q.take (n-(k+1))++Q.getD (n-1-k) 0::bk l (fun i=>Q.getD i 0) n k:=by
    rw [show n-k=(n-1-k)+1 by omega,take_last (by omega),show n-(k+1)=n-1-k by omega];simp
  have:=iter_nat (b:=T_solve_Back_b11 (n:Int) (k:Int) q l d) (fun m=>(((n-1-k+1+m:Nat):Int),Q.take (n-(k+1))++subN (fun m=>lowG l (n-1-k+1+m) (n-1-k)) (fun m=>(bk l (fun i=>Q.getD i 0) n k).getD m 0) (Q.getD (n-1-k) 0) m::bk l (fun i=>Q.getD i 0) n k)) (o:=Q.take (n-(k+1))++bk l (fun i=>Q.getD i 0) n (k+1)) k (by rw [FU_eq];omega) (fun m hm=>by
    unfold T_solve_Back_b11
    have len:(Q.take (n-(k+1))++subN (fun m=>lowG l (n-1-k+1+m) (n-1-k)) (fun m=>(bk l (fun i=>Q.getD i 0) n k).getD m 0) (Q.getD (n-1-k) 0) m::bk l (fun i=>Q.getD i 0) n k).length=n:=by
      rw [List.length_append,List.length_cons,bk_len,tl];omega
    simp only [Option.bind_some,e1,len]
    rw [cond_t (by simp;omega),at_getD 0 (by rw [len];omega),Option.bind_some,at_getD 0 (by rw [len];omega),Option.bind_some,below_t hn hl (by omega) (by omega)]
    simp only [Option.bind_some,Int.toNat_natCast]
    rw [app_eq tl,app_gt tl,app_set tl,wrU (by omega)];rfl) (by
    unfold T_solve_Back_b11
    have len:(Q.take (n-(k+1))++subN (fun m=>lowG l (n-1-k+1+m) (n-1-k)) (fun m=>(bk l (fun i=>Q.getD i 0) n k).getD m 0) (Q.getD (n-1-k) 0) k::bk l (fun i=>Q.getD i 0) n k).length=n:=by
      rw [List.length_append,List.length_cons,bk_len,tl];omega
    simp only [Option.bind_some,len]
    rw [cond_f (by simp;omega)]
    rfl)
  rw [split]
  exact this
theorem back_t {q:Int} {l d Q:List Nat} {n:Nat} (hn:n≤48) (hl:l.length=tri n) (hQ:Q.length=n) :
    iter (T_solve_Back_b9 ((Q.length:Nat):Int) q l d) FU (0,Q)=some (bk l (fun i=>Q.getD i 0) n n):=by
  have:=iter_nat (b:=T_solve_Back_b9 ((Q.length:Nat):Int) q l d) (fun k=>(((k:Nat):Int),Q.take (n-k)++bk l (fun i=>Q.getD i 0) n k)) (o:=bk l (fun i=>Q.getD i 0) n n) n (by rw [FU_eq];omega) (fun k hk=>by
    unfold T_solve_Back_b9
    have len:(Q.take (n-k)++bk l (fun i=>Q.getD i 0) n k).length=n:=by rw [List.length_append,bk_len,List.length_take];omega
    have e1:IntKind.i64.wrap ((IntKind.i64.wrap ((IntKind.i64.wrap ((n:Int)-1))-(k:Int)))+1)=((n-1-k+1:Nat):Int):=by
      rw [wrI (n:=(n:Int)-1) (by omega) (by omega),wrI (n:=(n:Int)-1-k) (by omega) (by omega),wrI (by omega) (by omega)];omega
    simp only [Option.bind_some,len,e1]
    rw [cond_t (by simp;omega),bk_row hn hl hQ hk,Option.bind_some,wrU (by omega)]) (by
    unfold T_solve_Back_b9
    dsimp only
    rw [cond_f (by simp;omega),Nat.sub_self,List.take_zero,List.nil_append])
  rw [Nat.sub_zero,show Q.take n=Q by rw [← hQ,List.take_length]] at this
  simpa [bk] using this
theorem rbk_row {l d:List Nat} {Z:List Nat} {n k s:Nat} {f:Nat→Nat} (hn:n≤48) (hl:l.length=tri n) (hk:k<n) (hZ:Z.length=n-1-k) {z:Nat} :
    iter (T_r13_Back_b9 (n:Int) (Z++z::bk l f n k) l d ((n-1-k:Nat):Int)) FU (s,((n-1-k+1:Nat):Int))=some (subN (fun m=>lowG l (n-1-k+1+m) (n-1-k)) (fun m=>(bk l f n k).getD m 0) s k):=by
  have:=iter_nat (b:=T_r13_Back_b9 (n:Int) (Z++z::bk l f n k) l d ((n-1-k:Nat):Int)) (fun m=>(subN (fun m=>lowG l (n-1-k+1+m) (n-1-k)) (fun m=>(bk l f n k).getD m 0) s m,((n-1-k+1+m:Nat):Int))) (o:=subN (fun m=>lowG l (n-1-k+1+m) (n-1-k)) (fun m=>(bk l f n k).getD m 0) s k) k (by rw [FU_eq];omega) (fun m hm=>by
    unfold T_r13_Back_b9
    dsimp only
    rw [cond_t (by simp;omega),at_getD 0 (by rw [List.length_append,List.length_cons,bk_len];omega),Option.bind_some,rbelow_t hn hl (by omega) (by omega)]
    simp only [Option.bind_some]
    rw [app_gt hZ,wrU (by omega)];rfl) (by
    unfold T_r13_Back_b9
    dsimp only
    rw [cond_f (by simp;omega)])
  exact this
theorem rback_t {l d b:List Nat} {n:Nat} (hn:n≤48) (hl:l.length=tri n) (hd:d.length=n) (hb:b.length=n) :
    iter (T_r13_Back_b7 b d (n:Int) l) FU ((n:Int)-1,List.replicate n 0)=some (bk l (quoG d b) n n):=by
  have:=iter_nat (b:=T_r13_Back_b7 b d (n:Int) l) (fun k=>((n:Int)-1-(k:Int),List.replicate (n-k) 0++bk l (quoG d b) n k)) (o:=bk l (quoG d b) n n) n (by rw [FU_eq];omega) (fun k hk=>by
    unfold T_r13_Back_b7
    have e0:(n:Int)-1-(k:Int)=((n-1-k:Nat):Int):=by omega
    have e:List.replicate (n-k) 0++bk l (quoG d b) n k=List.replicate (n-1-k) 0++0::bk l (quoG d b) n k:=by
      rw [show n-k=(n-1-k)+1 by omega,List.replicate_succ'];simp
    dsimp only
    rw [e0,e,cond_t (by simp),at_getD 0 (by omega),Option.bind_some,at_getD 0 (by omega),Option.bind_some,Option.bind_some,wrU (by omega),rbk_row hn hl hk (by simp),Option.bind_some,at_getD 0 (by simp [bk_len])]
    simp only [Option.bind_some,Int.toNat_natCast]
    rw [app_set (by simp),wrI (by omega) (by omega),show ((n-1-k:Nat):Int)-1=(n:Int)-1-((k+1:Nat):Int) by omega,show n-(k+1)=n-1-k by omega]
    rfl) (by
    unfold T_r13_Back_b7
    dsimp only
    rw [cond_f (by simp;omega),Nat.sub_self,List.replicate_zero,List.nil_append])
  simpa [bk] using this
end Go.Eng
/-
  Solving with a factor on the plain side: the code and its reference are one. No condition.
-/
set_option maxRecDepth 100000
set_option maxHeartbeats 4000000
set_option exponentiation.threshold 70000
namespace Go.Eng
open Go
theorem datum_swap (a b:Ieee.Datum):a.order b=(b.order a).map Ordering.swap:=by
  cases a with
  | nan=>cases b<;>rfl
  | infinity s =>
    cases b with
    | nan=>rfl
    | infinity t=>cases s<;>cases t<;>rfl
    | number t n j=>cases s<;>rfl
  | number s m i =>
    cases b with
    | nan=>rfl
    | infinity t=>cases t<;>rfl
    | number t n j =>
      simp only [Ieee.Datum.order,Option.map_some]
      rw [Int.min_comm j i,Int.compare_swap]
theorem feq_comm (x y:Nat):feq x y=feq y x:=by
  unfold feq Ieee.Format.order
  rw [datum_swap]
  cases (Ieee.double.read y).order (Ieee.double.read x) with
  | none=>rfl
  | some o=>cases o<;>rfl
theorem zero_both (q:Int) (l:List Nat) {d:List Nat} (hd:d.length≤4096) :
    ∃ z,T_slices_Contains___float64_float64 d (nf 0)=some z∧T_r13_zero q l d=some z∧(z=true→0<d.length):=by
  unfold T_slices_Contains___float64_float64 T_slices_Index___float64_float64 T_r13_zero
  simp only [Option.bind_some]
  have s1:∀ i,i<d.length→feq (d.getD i 0) (nf 0)=false→T_slices_Index___float64_float64_b2 ((d.length:Nat):Int) d (nf 0) (i:Int)=some (.inl ((i+1:Nat):Int)):=fun i hi h=>by
    unfold T_slices_Index___float64_float64_b2
    dsimp only
    rw [cond_t (by simp;omega),at_getD 0 hi,Option.bind_some,Option.bind_some,feq_comm,h,cF,wrU (by omega)]
  have s2:∀ i,i<d.length→feq (d.getD i 0) (nf 0)=false→T_r13_zero_b2 d (i:Int)=some (.inl ((i+1:Nat):Int)):=fun i hi h=>by
    unfold T_r13_zero_b2
    simp only [Option.bind_some]
    rw [cond_t (by simp;omega),at_getD 0 hi,Option.bind_some,h,cF,wrU (by omega)]
  rcases first_mark (fun i=>feq (d.getD i 0) (nf 0)) d.length with h | ⟨i,hi,h1,h2⟩
  · have t1:=iter_nat (b:=T_slices_Index___float64_float64_b2 ((d.length:Nat):Int) d (nf 0)) (fun i=>((i:Nat):Int)) (o := .inl ()) d.length (by rw [FU_eq];omega) (fun i hi=>s1 i hi (h i hi)) (by
      unfold T_slices_Index___float64_float64_b2
      dsimp only
      rw [cond_f (by simp)])
    have t2:=iter_nat (b:=T_r13_zero_b2 d) (fun i=>((i:Nat):Int)) (o := .inl ()) d.length (by rw [FU_eq];omega) (fun i hi=>s2 i hi (h i hi)) (by
      unfold T_r13_zero_b2
      simp only [Option.bind_some]
      rw [cond_f (by simp)])
    rw [show ((0:Nat):Int)=0 from rfl] at t1 t2
    rw [t1,t2]
    exact ⟨false,rfl,rfl,fun h=>by cases h⟩
  · have t1:=iter_nat (b:=T_slices_Index___float64_float64_b2 ((d.length:Nat):Int) d (nf 0)) (fun i=>((i:Nat):Int)) (o := .inr (i:Int)) i (by rw [FU_eq];omega) (fun j hj=>s1 j (by omega) (h2 j hj)) (by
      unfold T_slices_Index___float64_float64_b2
      dsimp only
      rw [cond_t (by simp;omega),at_getD 0 hi,Option.bind_some,Option.bind_some,feq_comm,h1,cT])
    have t2:=iter_nat (b:=T_r13_zero_b2 d) (fun i=>((i:Nat):Int)) (o := .inr true) i (by rw [FU_eq];omega) (fun j hj=>s2 j (by omega) (h2 j hj)) (by
      unfold T_r13_zero_b2
      simp only [Option.bind_some]
      rw [cond_t (by simp;omega),at_getD 0 hi,Option.bind_some,h1,cT])
    rw [show ((0:Nat):Int)=0 from rfl] at t1 t2
    rw [t1,t2]
    refine ⟨true,?_,rfl,fun _=>by omega⟩
    simp
theorem fits_no {q k:Int} {l d:List Nat} (h:T_lower_Right q l d=some false):T_solve_fits q l d k=some 4:=by
  unfold T_solve_fits;rw [h];rfl
theorem fits_off {q k:Int} {l d:List Nat} (h:T_lower_Right q l d=some true) (hk:k≠q):T_solve_fits q l d k=some 4:=by
  unfold T_solve_fits;rw [h,Option.bind_some];rw [cond_t (by rfl),cond_t (by simpa using hk)]
theorem fits_yes {q k:Int} {l d:List Nat} (h:T_lower_Right q l d=some true) (hk:k=q):T_solve_fits q l d k=some 0:=by
  unfold T_solve_fits;rw [h,Option.bind_some];rw [cond_t (by rfl),cond_f (by simpa using hk)]
theorem clone_t {l:List Nat} (h:l.length≤4294967296):T_slices_Clone___float64_float64 l=some l:=by
  unfold T_slices_Clone___float64_float64;rw [cond_t (by simpa using h)]
theorem forward_good {q:Int} {l d b:List Nat} {n:Nat} (hR:T_lower_Right q l d=some true) (hq:q=n) (hn:n≤48) (hl:l.length=tri n) (hb:b.length=n) :
    T_solve_Forward q l d b=some (fw l b n,0)∧T_r13_Forward q l d b=some (fw l b n,0):=by
  constructor
  · unfold T_solve_Forward
    rw [Option.bind_some,fits_yes hR (by omega),Option.bind_some,cond_f (by rfl),clone_t (by omega),Option.bind_some,Option.bind_some,forward_t hn hl hb];rfl
  · unfold T_r13_Forward
    rw [rright13,hR]
    simp only [Option.bind_some,Bool.not_true,Bool.not_false,cT]
    subst hq
    rw [cond_f (by simp [hb]),mk_nat (by omega),Option.bind_some,nf_zero,rforward_t hn hl hb];rfl
theorem forward_bad {q:Int} {l d b:List Nat} (h:T_lower_Right q l d=some false∨T_lower_Right q l d=some true∧((b.length:Nat):Int)≠q) :
    T_solve_Forward q l d b=some ([],4)∧T_r13_Forward q l d b=some ([],4):=by
  rcases h with h | ⟨h,hb⟩
  · constructor
    · unfold T_solve_Forward;rw [Option.bind_some,fits_no h];rfl
    · unfold T_r13_Forward;rw [rright13,h];rfl
  · constructor
    · unfold T_solve_Forward;rw [Option.bind_some,fits_off h hb];rfl
    · unfold T_r13_Forward;rw [rright13,h]
      simp only [Option.bind_some,Bool.not_true,Bool.not_false,cT]
      rw [cond_t (by simpa using hb)];rfl
theorem back_good {q:Int} {l d b:List Nat} {n:Nat} (hR:T_lower_Right q l d=some true) (hq:q=n) (hn:n≤48) (hl:l.length=tri n) (hd:d.length=n) (hb:b.length=n) :
    (0<n∧T_slices_Contains___float64_float64 d (nf 0)=some true∧T_r13_zero q l d=some true∧T_solve_Back q l d b=some ([],7)∧T_r13_Back q l d b=some ([],7)) ∨
    (T_slices_Contains___float64_float64 d (nf 0)=some false∧T_r13_zero q l d=some false∧T_solve_Back q l d b=some (bk l (quoG d b) n n,0)∧T_r13_Back q l d b=some (bk l (quoG d b) n n,0)):=by
  obtain ⟨z,h1,h2,h3⟩:=zero_both q l (d:=d) (by omega)
  have c:T_solve_Back q l d b=cond z (some ([],7)) (some (bk l (quoG d b) n n,0)):=by
    unfold T_solve_Back
    rw [Option.bind_some,fits_yes hR (by omega),Option.bind_some,cond_f (by rfl),h1,Option.bind_some,clone_t (by omega)]
    cases z
    · rw [cF,cF,Option.bind_some,Option.bind_some,quo_t hn hd hb,Option.bind_some,Option.bind_some,back_t hn hl (by simp),Option.bind_some]
      have key:∀ k,k≤n→bk l (fun i=>((List.range n).map (quoG d b)).getD i 0) n k=bk l (quoG d b) n k:=by
        intro k
        induction k with
        | zero=>intro _;rfl
        | succ k ih =>
          intro hk
          have e:((List.range n).map (quoG d b)).getD (n-1-k) 0=quoG d b (n-1-k):=by
            simp [List.getD_eq_getElem?_getD,show n-1-k<n by omega]
          unfold bk
          rw [ih (by omega),e]
      have this:=key n (Nat.le_refl _)
      rw [this]
    · rfl
  have r:T_r13_Back q l d b=cond z (some ([],7)) (some (bk l (quoG d b) n n,0)):=by
    unfold T_r13_Back
    rw [rright13,hR]
    simp only [Option.bind_some,Bool.not_true,Bool.not_false,cT]
    rw [cond_f (by simp;omega),h2,Option.bind_some]
    cases z
    · subst hq
      rw [cF,cF,mk_nat (by omega),Option.bind_some,nf_zero,wrI (by omega) (by omega),rback_t hn hl hd hb];rfl
    · rfl
  cases z
  · exact .inr ⟨h1,h2,c,r⟩
  · exact .inl ⟨by have:=h3 rfl;omega,h1,h2,c,r⟩
structure Same2 (f g:Option (List Nat×Int)) (n:Nat):Prop where
  eq:f=g
  is:∃ x e,f=some (x,e)∧x.length≤48∧(e=0→x.length=n)
theorem forward_same (q:Int) (l d:List Nat) {b:List Nat}:Same2 (T_solve_Forward q l d b) (T_r13_Forward q l d b) b.length:=by
  rcases right_cases q l d with ⟨hR,n,hq,hn,hl,hd⟩ | hR
  · by_cases hb:b.length=n
    · obtain ⟨h1,h2⟩:=forward_good hR hq hn hl hb
      exact ⟨h1.trans h2.symm,_,_,h1,by rw [fw_len];exact hn,fun _=>by rw [fw_len,hb]⟩
    · obtain ⟨h1,h2⟩:=forward_bad (q:=q) (l:=l) (d:=d) (b:=b) (.inr ⟨hR,by omega⟩)
      exact ⟨h1.trans h2.symm,_,_,h1,by simp,fun h=>by cases h⟩
  · obtain ⟨h1,h2⟩:=forward_bad (q:=q) (l:=l) (d:=d) (b:=b) (.inl hR)
    exact ⟨h1.trans h2.symm,_,_,h1,by simp,fun h=>by cases h⟩
theorem back_bad {q:Int} {l d b:List Nat} (h:T_lower_Right q l d=some false∨T_lower_Right q l d=some true∧((b.length:Nat):Int)≠q) :
    T_solve_Back q l d b=some ([],4)∧T_r13_Back q l d b=some ([],4):=by
  rcases h with h | ⟨h,hb⟩
  · constructor
    · unfold T_solve_Back;rw [Option.bind_some,fits_no h];rfl
    · unfold T_r13_Back;rw [rright13,h];rfl
  · constructor
    · unfold T_solve_Back;rw [Option.bind_some,fits_off h hb];rfl
    · unfold T_r13_Back;rw [rright13,h]
      simp only [Option.bind_some,Bool.not_true,Bool.not_false,cT]
      rw [cond_t (by simpa using hb)];rfl
theorem back_same (q:Int) (l d:List Nat) {b:List Nat}:Same2 (T_solve_Back q l d b) (T_r13_Back q l d b) b.length:=by
  rcases right_cases q l d with ⟨hR,n,hq,hn,hl,hd⟩ | hR
  · by_cases hb:b.length=n
    · rcases back_good hR hq hn hl hd hb with ⟨_,_,_,h1,h2⟩ | ⟨_,_,h1,h2⟩
      · exact ⟨h1.trans h2.symm,_,_,h1,by simp,fun h=>by cases h⟩
      · exact ⟨h1.trans h2.symm,_,_,h1,by rw [bk_len];exact hn,fun _=>by rw [bk_len,hb]⟩
    · obtain ⟨h1,h2⟩:=back_bad (q:=q) (l:=l) (d:=d) (b:=b) (.inr ⟨hR,by omega⟩)
      exact ⟨h1.trans h2.symm,_,_,h1,by simp,fun h=>by cases h⟩
  · obtain ⟨h1,h2⟩:=back_bad (q:=q) (l:=l) (d:=d) (b:=b) (.inl hR)
    exact ⟨h1.trans h2.symm,_,_,h1,by simp,fun h=>by cases h⟩
theorem solve_same (q:Int) (l d:List Nat) {b:List Nat}:Same2 (T_solve_Solve q l d b) (T_r13_Solve q l d b) b.length:=by
  unfold T_solve_Solve T_r13_Solve
  obtain ⟨h1,x,e,h2,h3,h4⟩:=forward_same q l d (b:=b)
  rw [← h1,h2,Option.bind_some,Option.bind_some]
  dsimp only
  by_cases he:e=0
  · subst he
    rw [cond_f (by rfl),cond_f (by rfl)]
    obtain ⟨k1,y,f,k2,k3,k4⟩:=back_same q l d (b:=x)
    rw [← k1,k2]
    exact ⟨rfl,y,f,rfl,k3,fun h=>by rw [k4 h,h4 rfl]⟩
  · rw [cond_t (by simpa using he),cond_t (by simpa using he)]
    exact ⟨rfl,[],e,rfl,by simp,fun h=>absurd h he⟩
end Go.Eng
