/-
  Words of 32 bits: what the functions of package bignum come to: cutting off, sums, differences, products. No condition.
-/
import Derived.Test.YtgbilchfljlbeaaGreatDoorTpA
import Derived.Test.YtgbilchfljlbeaaGreatDoorBgo
set_option linter.all false
set_option maxRecDepth 100000
set_option maxHeartbeats 4000000
namespace Go.Eng
open Go
theorem w32 (n:Int):IntKind.u32.wrap n=n%4294967296:=by simp [IntKind.wrap,IntKind.bits,IntKind.signed]
theorem w64 (n:Int):IntKind.u64.wrap n=n%18446744073709551616:=by simp [IntKind.wrap,IntKind.bits,IntKind.signed]
theorem Fn5 (n:Nat):IntKind.u32.wrap (n:Int)=((n%4294967296:Nat):Int):=by rw [w32];omega
theorem Bd2 {n:Nat} (h:n<18446744073709551616):IntKind.u64.wrap (n:Int)=(n:Int):=by rw [w64];omega
theorem fdn (n k:Nat):((n:Nat):Int).fdiv (2^k)=((n/2^k:Nat):Int):=by
  rw [Int.fdiv_eq_ediv_of_nonneg _ (by have:=Int.pow_pos (n:=(2:Int)) (m:=k) (by decide);omega)]
  simp
theorem Hc5:min (32:Int).toNat IntKind.u64.bits=32:=by decide
theorem Hs4:min (63:Int).toNat IntKind.u64.bits=63:=by decide
theorem Bj2 {τ ω:Type} {b:τ→Option (τ⊕ω)} (I:Nat→τ→Prop) (n:Nat) (Q:ω→Prop) (hn:n<FU) (step:∀ i s,i<n→I i s→∃ s',b s=some (.inl s')∧I (i+1) s') (stop:∀ s,I n s→∃ o,b s=some (.inr o)∧Q o) {s0:τ} (h0:I 0 s0):∃ o,Ag0 b FU s0=some o∧Q o:=by
  have key:∀ k i m s,i+k=n→k<m→I i s→∃ o,Ag0 b m s=some o∧Q o:=by
    intro k
    induction k with
    | zero=>
      intro i m s hi hm hI
      obtain ⟨m,rfl⟩:∃ q,m=q+1:=⟨m-1,by omega⟩
      obtain rfl:i=n:=by omega
      obtain ⟨o,h1,h2⟩:=stop s hI
      exact ⟨o,by rw [Aq9,h1],h2⟩
    | succ k ih=>
      intro i m s hi hm hI
      obtain ⟨m,rfl⟩:∃ q,m=q+1:=⟨m-1,by omega⟩
      obtain ⟨s',h1,h2⟩:=step i s (by omega) hI
      obtain ⟨o,h3,h4⟩:=ih (i+1) m s' (by omega) (by omega) h2
      exact ⟨o,by rw [Aq9,h1];exact h3,h4⟩
  exact key n 0 FU s0 (by omega) hn h0
theorem Hg2 {l:List Int} (hl:l.length≤1099511627776):∃ n:Nat,n≤l.length∧Al0 l=some (n:Int)∧(∀ j,n≤j→j<l.length→l.getD j 0=0)∧(n=0∨l.getD (n-1) 0≠0):=by
  have ex:∃ n:Nat,n≤l.length∧(∀ j,n≤j→j<l.length→l.getD j 0=0)∧(n=0∨l.getD (n-1) 0≠0):=by
    rcases Az2 (fun i=>l.getD (l.length-1-i) 0 != 0) l.length with h | ⟨i,hi,h1,h2⟩
    · refine ⟨0,by omega,fun j _ hj=>?_,.inl rfl⟩
      have:=h (l.length-1-j) (by omega)
      rw [show l.length-1-(l.length-1-j)=j by omega] at this
      simpa using this
    · refine ⟨l.length-i,by omega,fun j hj hjl=>?_,.inr ?_⟩
      · have:=h2 (l.length-1-j) (by omega)
        rw [show l.length-1-(l.length-1-j)=j by omega] at this
        simpa using this
      · rw [show l.length-i-1=l.length-1-i by omega]
        simpa using h1
  obtain ⟨n,hn,h0,h1⟩:=ex
  refine ⟨n,hn,?_,h0,h1⟩
  unfold Al0
  have loop:=Ab9 (b:=Bb8 l) (fun i=>((l.length-i:Nat):Int)) (o:=(n:Int)) (l.length-n) (by rw [Ae6];omega) (fun i hi=>by
    unfold Bb8
    dsimp only
    have e:IntKind.i64.wrap (((l.length-i:Nat):Int)-1)=((l.length-(i+1):Nat):Int):=by rw [wrI (by omega) (by omega)];omega
    rw [Aa6 (by simp;omega),e,Ab8 0 (by omega),Option.bind_some,h0 _ (by omega) (by omega)]
    rfl) (by
    unfold Bb8
    dsimp only
    rw [show l.length-(l.length-n)=n by omega]
    rcases h1 with h1 | h1
    · subst h1;rfl
    · by_cases hz:n=0
      · subst hz;rfl
      · have e:IntKind.i64.wrap (((n:Nat):Int)-1)=((n-1:Nat):Int):=by rw [wrI (by omega) (by omega)];omega
        rw [Aa6 (by simp;omega),e,Ab8 0 (by omega),Option.bind_some,Aa8 (by simpa using h1)])
  rw [Option.bind_some]
  rw [Nat.sub_zero] at loop
  rw [loop,Option.bind_some,show (0:Int)=((0:Nat):Int) from rfl,Cd4 (by omega) hn]
  rfl
theorem Bn3 {l:List Int} (h:Wd l) (hl:l.length≤1099511627776) {β:Type} (f:List Int→Option β):((Al0 l).bind fun t=>(Cy1 l 0 t).bind f)=f (W (wv l)):=by
  obtain ⟨n,hn,ht,h0,h1⟩:=Hg2 hl
  rw [ht,Option.bind_some,show (0:Int)=((0:Nat):Int) from rfl,Cd4 (by omega) hn,Option.bind_some]
  have:=Gs2 h hn h0 h1
  rw [← this]
  simp
theorem Ft7 {x:Nat} (h:x<18446744073709551616):Bf1 (x:Int)=some (W x):=by
  unfold Bf1
  rw [Option.bind_some,Hc5,fdn,Fn5,Fn5]
  have hd:Wd [((x%4294967296:Nat):Int),((x/2^32%4294967296:Nat):Int)]:=Cn9 (by omega) (by omega) (Cn9 (by omega) (by omega) Ff7)
  rw [Bn3 hd (by simp)]
  have:wv [((x%4294967296:Nat):Int),((x/2^32%4294967296:Nat):Int)]=x:=by
    simp only [wv];omega
  rw [this]
theorem Gq8 {l:List Int} (h:l.length≤4294967296):Bm6 l=some l:=by
  unfold Bm6
  rw [Bg5 (by simpa using h)];rfl
def dl (m i V:Nat):List Int:=(List.range m).map fun k=>if k<i then ((dg V k:Nat):Int) else 0
theorem Ax5 (m i V:Nat):(dl m i V).length=m:=by simp [dl]
theorem Eg1 {m i V k:Nat} (h:k<m):(dl m i V).getD k 0=if k<i then ((dg V k:Nat):Int) else 0:=by
  unfold dl;simp [List.getD_eq_getElem?_getD,h]
theorem Ey8 (m V:Nat):dl m 0 V=List.replicate m 0:=by
  unfold dl
  rw [← Ez1]
  exact List.map_congr_left fun k _=>by simp
theorem Fh6 {m i V:Nat}:(dl m i V).set i ((dg V i:Nat):Int)=dl m (i+1) V:=by
  refine Cy3 0 (by simp [dl]) fun k hk=>?_
  have hkm:k<m:=by simpa [dl] using hk
  by_cases e:k=i
  · subst e
    rw [List.getD_eq_getElem?_getD,List.getElem?_set_self (by rw [Ax5];exact hkm),Eg1 hkm,if_pos (by omega)];rfl
  · rw [List.getD_eq_getElem?_getD,List.getElem?_set_ne (Ne.symm e),← List.getD_eq_getElem?_getD,Eg1 hkm,Eg1 hkm]
    by_cases h:k<i
    · rw [if_pos h,if_pos (by omega)]
    · rw [if_neg h,if_neg (by omega)]
theorem Fr7 (m i V:Nat):Wd (dl m i V):=by
  intro x hx
  obtain ⟨k,_,rfl⟩:=List.mem_map.1 hx
  have:=Az1 V k
  split<;>omega
theorem Gb2 {m V:Nat} (h:V<4294967296^m):wv (dl m m V)=V:=Hi4 (Fr7 m m V) (by rw [Ax5];exact h) fun k hk=>by
  rw [Ax5] at hk
  rw [Eg1 hk,if_pos hk]
theorem Bh5 {l:List Int} (h:Wd l) {k:Nat} (hk:k<l.length):atI l (k:Int)=some ((dg (wv l) k:Nat):Int):=by
  rw [Ab8 0 hk,Hl7 h]
def cyA (X Y i:Nat):Nat:=(X%4294967296^i+Y%4294967296^i)/4294967296^i
theorem Gg5 (X Y i:Nat):cyA X Y i≤1:=by
  unfold cyA
  have hp:=Ah3 i
  have h1:=Nat.mod_lt X hp
  have h2:=Nat.mod_lt Y hp
  have:(X%4294967296^i+Y%4294967296^i)/4294967296^i<2:=(Nat.div_lt_iff_lt_mul hp).2 (by omega)
  omega
theorem Ed4 (X Y i:Nat):(cyA X Y i+dg X i+dg Y i)/4294967296=cyA X Y (i+1):=by
  unfold cyA
  rw [Ah0,Ah0,Nat.pow_succ,← Nat.div_div_eq_div_mul]
  congr 1
  rw [show X%4294967296^i+dg X i*4294967296^i+(Y%4294967296^i+dg Y i*4294967296^i)=(X%4294967296^i+Y%4294967296^i)+(dg X i+dg Y i)*4294967296^i by rw [Nat.add_mul];omega,Nat.add_mul_div_right _ _ (Ah3 i)]
  omega
theorem Es8 (X Y i:Nat):(X+Y)/4294967296^i=X/4294967296^i+Y/4294967296^i+cyA X Y i:=by
  unfold cyA
  have hp:=Ah3 i
  have h1:=Nat.div_add_mod X (4294967296^i)
  have h2:=Nat.div_add_mod Y (4294967296^i)
  conv=>lhs;rw [← h1,← h2]
  rw [show 4294967296^i*(X/4294967296^i)+X%4294967296^i+(4294967296^i*(Y/4294967296^i)+Y%4294967296^i)=(X%4294967296^i+Y%4294967296^i)+(X/4294967296^i+Y/4294967296^i)*4294967296^i by rw [Nat.add_mul,Nat.mul_comm (4294967296^i),Nat.mul_comm (4294967296^i)];omega,Nat.add_mul_div_right _ _ hp]
  omega
theorem Gb5 (X Y i:Nat):dg (X+Y) i=(cyA X Y i+dg X i+dg Y i)%4294967296:=by
  unfold dg
  rw [Es8];omega
theorem Gl2 {x y:List Int} (hx:Wd x) (hy:Wd y) (hl:y.length≤x.length) (hb:x.length≤4294967296) :
    Ag0 (Av5 x y) FU (0,0,List.replicate (x.length+1) 0)=some ((((cyA (wv x) (wv y) x.length:Nat):Int)),dl (x.length+1) x.length (wv x+wv y)):=by
  have:=Ab9 (b:=Av5 x y) (fun i=>(((cyA (wv x) (wv y) i:Nat):Int),((i:Nat):Int),dl (x.length+1) i (wv x+wv y))) (o:=(((cyA (wv x) (wv y) x.length:Nat):Int),dl (x.length+1) x.length (wv x+wv y))) x.length (by rw [Ae6];omega) (fun i hi=>by
    unfold Av5
    simp only [Option.bind_some]
    have h1:=Az1 (wv x) i
    have h2:=Az1 (wv y) i
    have h3:=Gg5 (wv x) (wv y) i
    have e:(cond (decide (((i:Nat):Int)<((y.length:Nat):Int))) ((atI y (i:Int)).bind fun t16=>some (IntKind.u64.wrap (IntKind.u64.wrap (((cyA (wv x) (wv y) i:Nat):Int)+IntKind.u64.wrap ((dg (wv x) i:Nat):Int))+IntKind.u64.wrap t16))) (some (IntKind.u64.wrap (((cyA (wv x) (wv y) i:Nat):Int)+IntKind.u64.wrap ((dg (wv x) i:Nat):Int)))))=some (((cyA (wv x) (wv y) i+dg (wv x) i+dg (wv y) i:Nat):Int)):=by
      rw [Bd2 (n:=dg (wv x) i) (by omega),← Int.natCast_add,Bd2 (n:=cyA (wv x) (wv y) i+dg (wv x) i) (by omega)]
      by_cases hiy:i<y.length
      · rw [Aa6 (by simpa using hiy),Bh5 hy hiy,Option.bind_some,Bd2 (n:=dg (wv y) i) (by omega),← Int.natCast_add,Bd2 (by omega)]
      · rw [Aa8 (by simpa using hiy),show dg (wv y) i=0 from Bk8 (Nat.lt_of_lt_of_le (Eo0 hy) (Nat.pow_le_pow_right (by omega) (by omega)))]
        simp
    rw [Aa6 (by simp;omega),Bh5 hx hi,Option.bind_some,e,Option.bind_some,Ab8 0 (by rw [Ax5];omega)]
    simp only [Option.bind_some,Int.toNat_natCast]
    rw [Fn5,← Gb5,Fh6,Hc5,fdn,show (2:Nat)^32=4294967296 from rfl,Ed4,wrU (by omega)]) (by
    unfold Av5
    simp only [Option.bind_some]
    rw [Aa8 (by simp)])
  rw [Ey8,show ((cyA (wv x) (wv y) 0:Nat):Int)=0 by unfold cyA;simp [Nat.mod_one]] at this
  exact this
theorem Ff9 {x y:List Int} (hx:Wd x) (hy:Wd y) (hl:y.length≤x.length) (hb:x.length≤4294967296) :
    ((Ag0 (Av5 x y) FU (0,0,List.replicate (x.length+1) 0)).bind fun o=>match o with
      | (t7,t8)=>(some ((x.length:Nat):Int)).bind fun t19=>(atI t8 t19).bind fun _=>(some (t8.set (t19).toNat (IntKind.u32.wrap t7))).bind fun t21=>(Al0 t21).bind fun t23=>(Cy1 t21 0 t23).bind fun t24=>some t24)=some (W (wv x+wv y)):=by
  rw [Gl2 hx hy hl hb,Option.bind_some]
  dsimp only
  have lx:=Eo0 hx
  have ly:=Nat.lt_of_lt_of_le (Eo0 hy) (Nat.pow_le_pow_right (n:=4294967296) (by omega) hl)
  have e:cyA (wv x) (wv y) x.length%4294967296=dg (wv x+wv y) x.length:=by
    rw [Gb5,Bk8 lx,Bk8 ly];simp
  rw [Option.bind_some,Ab8 0 (by rw [Ax5];omega)]
  simp only [Option.bind_some,Int.toNat_natCast]
  rw [Fn5,e,Fh6,Bn3 (Fr7 _ _ _) (by rw [Ax5];omega),Gb2]
  rw [Nat.pow_succ];omega
theorem Hn9 {a b:Nat} (ha:(W a).length≤4294967296) (hb:(W b).length≤4294967296):Bw2 (W a) (W b)=some (W (a+b)):=by
  unfold Bw2
  rw [Option.bind_some,Option.bind_some]
  rcases Nat.lt_or_ge (W a).length (W b).length with h | h
  · rw [Aa6 (by simpa using h),Option.bind_some]
    dsimp only
    rw [Option.bind_some,wrU (by omega),Bm3 (by omega),Option.bind_some,Ff9 (Cd3 b) (Cd3 a) (by omega) hb,Bq9,Bq9,Nat.add_comm]
  · rw [Aa8 (by simpa using h),Option.bind_some]
    dsimp only
    rw [Option.bind_some,wrU (by omega),Bm3 (by omega),Option.bind_some,Ff9 (Cd3 a) (Cd3 b) (by omega) ha,Bq9,Bq9]
def boA (X Y i:Nat):Nat:=if X%4294967296^i<Y%4294967296^i then 1 else 0
theorem Gt2 (X Y i:Nat):boA X Y i≤1:=by unfold boA;split<;>omega
theorem Fg0 (X Y i:Nat):boA X Y (i+1)=if dg X i<dg Y i+boA X Y i then 1 else 0:=by
  unfold boA
  rw [Ah0,Ah0]
  have hp:=Ah3 i
  have h1:=Nat.mod_lt X hp
  have h2:=Nat.mod_lt Y hp
  generalize X%4294967296^i=p at *
  generalize Y%4294967296^i=q at *
  generalize dg X i=x
  generalize dg Y i=y
  generalize 4294967296^i=P at *
  rcases Nat.lt_trichotomy x y with h | h | h
  · have:(x+1)*P≤y*P:=Nat.mul_le_mul_right _ h
    rw [Nat.add_mul] at this
    rw [if_pos (by omega)]
    split<;>rw [if_pos (by omega)]
  · subst h
    by_cases hpq:p<q
    · rw [if_pos (by omega),if_pos hpq,if_pos (by omega)]
    · rw [if_neg (by omega),if_neg hpq,if_neg (by omega)]
  · have:(y+1)*P≤x*P:=Nat.mul_le_mul_right _ h
    rw [Nat.add_mul] at this
    rw [if_neg (by omega)]
    split<;>rw [if_neg (by omega)]
theorem Gd7 {X Y:Nat} (h:Y≤X) (i:Nat):(X-Y)/4294967296^i+Y/4294967296^i+boA X Y i=X/4294967296^i:=by
  have hp:=Ah3 i
  have h1:=Nat.div_add_mod X (4294967296^i)
  have h2:=Nat.div_add_mod Y (4294967296^i)
  have l1:=Nat.mod_lt X hp
  have l2:=Nat.mod_lt Y hp
  unfold boA
  generalize X%4294967296^i=p at *
  generalize Y%4294967296^i=q at *
  generalize hx:X/4294967296^i=x at *
  generalize hy:Y/4294967296^i=y at *
  generalize 4294967296^i=P at *
  have hyx:y≤x:=by rw [← hx,← hy];exact Nat.div_le_div_right h
  split
  · rename_i hpq
    have hlt:y<x:=by
      rcases Nat.lt_or_ge y x with k | k
      · exact k
      · have:x=y:=by omega
        subst this;omega
    have e:X-Y=(x-y-1)*P+(P+p-q):=by
      have:x*P=(x-y-1)*P+y*P+P:=by
        rw [← Nat.add_mul,← Nat.succ_mul];congr 1;omega
      rw [Nat.mul_comm] at h1 h2
      omega
    have:(X-Y)/P=x-y-1:=by
      rw [e,Nat.mul_comm,Nat.mul_add_div hp,Nat.div_eq_of_lt (by omega)];omega
    omega
  · rename_i hpq
    have e:X-Y=(x-y)*P+(p-q):=by
      have:x*P=(x-y)*P+y*P:=by rw [← Nat.add_mul];congr 1;omega
      rw [Nat.mul_comm] at h1 h2
      omega
    have:(X-Y)/P=x-y:=by
      rw [e,Nat.mul_comm,Nat.mul_add_div hp,Nat.div_eq_of_lt (by omega)];omega
    omega
theorem Gr3 {X Y:Nat} (h:Y≤X) (i:Nat):((dg (X-Y) i:Nat):Int)=(((dg X i:Nat):Int)-boA X Y i-dg Y i)%4294967296:=by
  have:=Gd7 h i
  unfold dg
  omega
theorem Gi8 {x y:List Int} (hx:Wd x) (hy:Wd y) (hl:wv y≤wv x) (hb:x.length≤4294967296) :
    Ag0 (Az8 x y) FU (0,0,List.replicate x.length 0)=some (dl x.length x.length (wv x-wv y)):=by
  have:=Ab9 (b:=Az8 x y) (fun i=>(((boA (wv x) (wv y) i:Nat):Int),((i:Nat):Int),dl x.length i (wv x-wv y))) (o:=dl x.length x.length (wv x-wv y)) x.length (by rw [Ae6];omega) (fun i hi=>by
    unfold Az8
    simp only [Option.bind_some]
    have h1:=Az1 (wv x) i
    have h2:=Az1 (wv y) i
    have h3:=Gt2 (wv x) (wv y) i
    have e:(cond (decide (((i:Nat):Int)<((y.length:Nat):Int))) ((atI y (i:Int)).bind fun t11=>some (IntKind.u64.wrap (IntKind.u64.wrap (IntKind.u64.wrap ((dg (wv x) i:Nat):Int)-((boA (wv x) (wv y) i:Nat):Int))-IntKind.u64.wrap t11))) (some (IntKind.u64.wrap (IntKind.u64.wrap ((dg (wv x) i:Nat):Int)-((boA (wv x) (wv y) i:Nat):Int)))))=some ((((dg (wv x) i:Nat):Int)-boA (wv x) (wv y) i-dg (wv y) i)%18446744073709551616):=by
      rw [Bd2 (n:=dg (wv x) i) (by omega)]
      by_cases hiy:i<y.length
      · rw [Aa6 (by simpa using hiy),Bh5 hy hiy,Option.bind_some,Bd2 (n:=dg (wv y) i) (by omega),w64,w64]
        congr 1;omega
      · rw [Aa8 (by simpa using hiy),show dg (wv y) i=0 from Bk8 (Nat.lt_of_lt_of_le (Eo0 hy) (Nat.pow_le_pow_right (by omega) (by omega))),w64]
        congr 1;omega
    have e2:((((dg (wv x) i:Nat):Int)-boA (wv x) (wv y) i-dg (wv y) i)%18446744073709551616).fdiv (2^63)=((boA (wv x) (wv y) (i+1):Nat):Int):=by
      rw [Fg0,Int.fdiv_eq_ediv_of_nonneg _ (by decide)]
      split<;>omega
    rw [Aa6 (by simp;omega),Bh5 hx hi,Option.bind_some,e,Option.bind_some,Ab8 0 (by rw [Ax5];omega)]
    simp only [Option.bind_some,Int.toNat_natCast]
    have e3:((((dg (wv x) i:Nat):Int)-boA (wv x) (wv y) i-dg (wv y) i)%18446744073709551616)%4294967296=((dg (wv x-wv y) i:Nat):Int):=by
      rw [Gr3 hl];omega
    rw [w32,e3,Fh6,Hs4,e2,wrU (by omega)]) (by
    unfold Az8
    simp only [Option.bind_some]
    rw [Aa8 (by simp)])
  rw [Ey8,show ((boA (wv x) (wv y) 0:Nat):Int)=0 by unfold boA;simp [Nat.mod_one]] at this
  exact this
theorem Hf6 {a b:Nat} (h:b≤a) (ha:(W a).length≤4294967296):Bm9 (W a) (W b)=some (W (a-b)):=by
  unfold Bm9
  have loop:=Gi8 (Cd3 a) (Cd3 b) (by rw [Bq9,Bq9];exact h) ha
  rw [Bq9,Bq9] at loop
  rw [Option.bind_some,Bm3 (by omega),Option.bind_some,loop,Option.bind_some,Bn3 (Fr7 _ _ _) (by rw [Ax5];omega),Gb2]
  exact Nat.lt_of_le_of_lt (Nat.sub_le a b) (Ae9 a)
theorem Gz3 {x y r:List Int} {i V:Nat} (hx:Wd x) (hy:Wd y) (hi:i<x.length) (hr:Wd r) (hl:r.length=x.length+y.length) (hb:x.length+y.length≤8589934592) (hV:wv r=V) (h0:∀ k,i+y.length≤k→r.getD k 0=0) :
    ∃ o,((Ag0 (Av3 y x (i:Int)) FU (0,0,r)).bind fun o=>match o with
      | (t11,t12)=>(some ((y.length:Nat):Int)).bind fun t22=>(atI t12 (IntKind.i64.wrap ((i:Int)+t22))).bind fun _=>(some (t12.set ((IntKind.i64.wrap ((i:Int)+t22))).toNat (IntKind.u32.wrap t11))).bind fun t24=>some (Sum.inl (α:=Int×List Int) (β:=List Int) ((IntKind.i64.wrap ((i:Int)+1)),t24)))=some (.inl (((i+1:Nat):Int),o)) ∧
      Wd o∧o.length=x.length+y.length∧wv o=V+dg (wv x) i*wv y*4294967296^i∧∀ k,i+1+y.length≤k→o.getD k 0=0:=by
  have hxi:=Az1 (wv x) i
  obtain ⟨o,ho,c,r1,rfl,hc,hr1,hl1,hv1,hz1⟩:=Bj2 (b:=Av3 y x (i:Int)) (fun j s=>∃ (c:Nat) (r1:List Int),s=((c:Int),(j:Int),r1)∧c<4294967296∧Wd r1∧r1.length=x.length+y.length∧wv r1+c*4294967296^(i+j)=V+dg (wv x) i*(wv y%4294967296^j)*4294967296^i∧∀ k,i+y.length≤k→r1.getD k 0=0) y.length (fun o=>∃ (c:Nat) (r1:List Int),o=((c:Int),r1)∧c<4294967296∧Wd r1∧r1.length=x.length+y.length∧wv r1+c*4294967296^(i+y.length)=V+dg (wv x) i*wv y*4294967296^i∧∀ k,i+y.length≤k→r1.getD k 0=0) (by rw [Ae6];omega) (fun j s hj=>by
    rintro ⟨c,r1,rfl,hc,hr1,hl1,hv1,hz1⟩
    unfold Av3
    simp only [Option.bind_some]
    have hij:i+j<r1.length:=by omega
    have hyj:=Az1 (wv y) j
    have hrij:=Cv7 hr1 (i+j)
    generalize hg:(r1.getD (i+j) 0).toNat=g
    have hg':r1.getD (i+j) 0=(g:Int):=by omega
    have hg2:g<4294967296:=by omega
    have hprod:dg (wv x) i*dg (wv y) j≤4294967295*4294967295:=Nat.mul_le_mul (by omega) (by omega)
    rw [Aa6 (by simp;omega),Bh5 hx hi,Option.bind_some,Bh5 hy hj,Option.bind_some,Dd8 (by omega),Ab8 0 hij]
    simp only [Option.bind_some,Int.toNat_natCast]
    rw [hg',Bd2 (n:=dg (wv x) i) (by omega),Bd2 (n:=dg (wv y) j) (by omega),← Int.natCast_mul,Bd2 (n:=dg (wv x) i*dg (wv y) j) (by omega),Bd2 (n:=g) (by omega),← Int.natCast_add,Bd2 (n:=dg (wv x) i*dg (wv y) j+g) (by omega),← Int.natCast_add,Bd2 (n:=c+(dg (wv x) i*dg (wv y) j+g)) (by omega),Fn5,Hc5,fdn,wrU (by omega)]
    refine ⟨_,rfl,(c+(dg (wv x) i*dg (wv y) j+g))/2^32,_,rfl,by omega,Dw3 hr1 (by omega) (by omega),by rw [List.length_set];exact hl1,?_,fun k hk=>?_⟩
    · have hs:=Du9 (l:=r1) (((c+(dg (wv x) i*dg (wv y) j+g))%4294967296:Nat):Int) hij
      rw [hg,Int.toNat_natCast] at hs
      rw [show (2:Nat)^32=4294967296 from rfl,show i+(j+1)=i+j+1 by omega,Nat.pow_succ,Ah0]
      have hdm:=Nat.div_add_mod (c+(dg (wv x) i*dg (wv y) j+g)) 4294967296
      generalize hS:c+(dg (wv x) i*dg (wv y) j+g)=S at *
      have e1:wv (r1.set (i+j) ((S%4294967296:Nat):Int))+g*4294967296^(i+j)=wv r1+S%4294967296*4294967296^(i+j):=hs
      have e2:S/4294967296*(4294967296^(i+j)*4294967296)+S%4294967296*4294967296^(i+j)=S*4294967296^(i+j):=by
        conv=>rhs;rw [← hdm]
        rw [Nat.add_mul]
        congr 1
        ac_rfl
      have e3:S*4294967296^(i+j)=c*4294967296^(i+j)+dg (wv x) i*dg (wv y) j*4294967296^(i+j)+g*4294967296^(i+j):=by
        rw [← hS,Nat.add_mul,Nat.add_mul];omega
      have e4:dg (wv x) i*(wv y%4294967296^j+dg (wv y) j*4294967296^j)*4294967296^i=dg (wv x) i*(wv y%4294967296^j)*4294967296^i+dg (wv x) i*dg (wv y) j*4294967296^(i+j):=by
        rw [Nat.mul_add,Nat.add_mul,Nat.pow_add]
        congr 1
        ac_rfl
      rw [e4]
      omega
    · rw [List.getD_eq_getElem?_getD,List.getElem?_set_ne (by omega),← List.getD_eq_getElem?_getD]
      exact hz1 k hk) (fun s=>by
    rintro ⟨c,r1,rfl,hc,hr1,hl1,hv1,hz1⟩
    unfold Av3
    simp only [Option.bind_some]
    rw [Aa8 (by simp)]
    refine ⟨_,rfl,c,r1,rfl,hc,hr1,hl1,?_,hz1⟩
    rw [hv1,Bn8 (Eo0 hy)]) ⟨0,r,rfl,by omega,hr,hl,by rw [hV,Nat.pow_zero,Nat.mod_one];simp,h0⟩
  have ho:Ag0 (Av3 y x (i:Int)) FU (0,0,r)=some ((c:Int),r1):=ho
  rw [ho,Option.bind_some]
  dsimp only
  have hin:i+y.length<r1.length:=by omega
  rw [Option.bind_some,Dd8 (by omega),Ab8 0 hin]
  simp only [Option.bind_some,Int.toNat_natCast]
  rw [Fn5,Nat.mod_eq_of_lt hc,wrU (by omega)]
  refine ⟨_,rfl,Dw3 hr1 (by omega) (by omega),by rw [List.length_set];exact hl1,?_,fun k hk=>?_⟩
  · have hs:=Du9 (l:=r1) ((c:Nat):Int) hin
    rw [hz1 _ (Nat.le_refl _),Int.toNat_natCast] at hs
    simp only [Int.toNat_zero,Nat.zero_mul,Nat.add_zero] at hs
    rw [hs,hv1]
  · rw [List.getD_eq_getElem?_getD,List.getElem?_set_ne (by omega),← List.getD_eq_getElem?_getD]
    exact hz1 k (by omega)
theorem Hp3 {a b:Nat} (h:(W a).length+(W b).length≤8589934592):Cj2 (W a) (W b)=some (W (a*b)):=by
  unfold Cj2
  have emp:∀ n:Nat,((((W n).length:Nat):Int)==0)=decide (n=0):=fun n=>by
    by_cases hn:n=0
    · subst hn;rw [At9];rfl
    · have:(W n).length≠0:=fun e=>hn (Ef1.1 (List.eq_nil_of_length_eq_zero e))
      rw [decide_eq_false hn,beq_eq_false_iff_ne];omega
  simp only [Option.bind_some,emp]
  by_cases ha:a=0
  · subst ha
    rw [decide_eq_true rfl]
    simp [At9]
  · rw [decide_eq_false ha]
    by_cases hb:b=0
    · subst hb
      simp [At9]
    · rw [decide_eq_false hb]
      simp only [Bool.not_false,cT,Option.bind_some,cF]
      rw [Dd8 (by omega),Bm3 (by omega),Option.bind_some]
      obtain ⟨o,ho,hw,hl,hv⟩:=Bj2 (b:=Bg9 (W a) (W b)) (fun i s=>∃ r,s=((i:Int),r)∧Wd r∧r.length=(W a).length+(W b).length∧wv r=(a%4294967296^i)*b∧∀ k,i+(W b).length≤k→r.getD k 0=0) (W a).length (fun o=>Wd o∧o.length=(W a).length+(W b).length∧wv o=a*b) (by rw [Ae6];omega) (fun i s hi=>by
        rintro ⟨r,rfl,hr,hl,hv,hz⟩
        obtain ⟨o,h1,h2,h3,h4,h5⟩:=Gz3 (Cd3 a) (Cd3 b) hi hr hl (by omega) hv hz
        rw [Bq9,Bq9] at h4
        refine ⟨(((i+1:Nat):Int),o),?_,o,rfl,h2,h3,?_,h5⟩
        · unfold Bg9
          simp only [Option.bind_some]
          rw [Aa6 (by simp;omega)]
          simp only [Option.bind_some] at h1
          exact h1
        · rw [h4,Ah0,Nat.add_mul]
          congr 1
          ac_rfl) (fun s=>by
        rintro ⟨r,rfl,hr,hl,hv,hz⟩
        unfold Bg9
        simp only [Option.bind_some]
        rw [Aa8 (by simp)]
        exact ⟨r,rfl,hr,hl,by rw [hv,Bn8 (Ae9 a)]⟩) (s0:=(0,List.replicate ((W a).length+(W b).length) 0)) ⟨_,rfl,Fg5 _,by simp,by rw [Fk7,Nat.pow_zero,Nat.mod_one,Nat.zero_mul],fun k _=>by
          rw [List.getD_eq_getElem?_getD]
          rcases Nat.lt_or_ge k ((W a).length+(W b).length) with hk | hk
          · simp [hk]
          · rw [List.getElem?_eq_none (by simpa using hk)];rfl⟩
      rw [ho,Option.bind_some,Bn3 hw (by omega),hv]
end Go.Eng
/-
  Words of 32 bits: shifts, lengths, comparisons, bits. No condition.
-/
set_option maxRecDepth 100000
set_option maxHeartbeats 4000000
namespace Go.Eng
open Go
theorem Ho8 {a b:Nat} (ha:a<4294967296) (hb:b<4294967296):((BitVec.ofInt IntKind.u32.bits (a:Int) ||| BitVec.ofInt IntKind.u32.bits (b:Int)).toNat)=a ||| b:=by
  show (BitVec.ofInt 32 (a:Int) ||| BitVec.ofInt 32 (b:Int)).toNat=_
  rw [BitVec.toNat_or,BitVec.ofInt_natCast,BitVec.ofInt_natCast,BitVec.toNat_ofNat,BitVec.toNat_ofNat,Nat.mod_eq_of_lt (by omega),Nat.mod_eq_of_lt (by omega)]
theorem Hp9 {a b:Nat} (ha:a<4294967296) (hb:b<4294967296):((BitVec.ofInt IntKind.u32.bits (a:Int) &&& BitVec.ofInt IntKind.u32.bits (b:Int)).toNat)=a &&& b:=by
  show (BitVec.ofInt 32 (a:Int) &&& BitVec.ofInt 32 (b:Int)).toNat=_
  rw [BitVec.toNat_and,BitVec.ofInt_natCast,BitVec.ofInt_natCast,BitVec.toNat_ofNat,BitVec.toNat_ofNat,Nat.mod_eq_of_lt (by omega),Nat.mod_eq_of_lt (by omega)]
theorem Hs3 {a b:Nat} (ha:a<18446744073709551616) (hb:b<18446744073709551616):((BitVec.ofInt IntKind.u64.bits (a:Int) ||| BitVec.ofInt IntKind.u64.bits (b:Int)).toNat)=a ||| b:=by
  show (BitVec.ofInt 64 (a:Int) ||| BitVec.ofInt 64 (b:Int)).toNat=_
  rw [BitVec.toNat_or,BitVec.ofInt_natCast,BitVec.ofInt_natCast,BitVec.toNat_ofNat,BitVec.toNat_ofNat,Nat.mod_eq_of_lt (by omega),Nat.mod_eq_of_lt (by omega)]
theorem Hr2 {a b:Nat} (ha:a<18446744073709551616) (hb:b<18446744073709551616):((BitVec.ofInt IntKind.u64.bits (a:Int) &&& BitVec.ofInt IntKind.u64.bits (b:Int)).toNat)=a &&& b:=by
  show (BitVec.ofInt 64 (a:Int) &&& BitVec.ofInt 64 (b:Int)).toNat=_
  rw [BitVec.toNat_and,BitVec.ofInt_natCast,BitVec.ofInt_natCast,BitVec.toNat_ofNat,BitVec.toNat_ofNat,Nat.mod_eq_of_lt (by omega),Nat.mod_eq_of_lt (by omega)]
theorem Gw6 {a b:Nat} (ha:a<4294967296) (hb:b<4294967296):a ||| b<4294967296:=Nat.or_lt_two_pow (n:=32) ha hb
theorem Dz9 {a b s:Nat} (h:a<2^s):a ||| b*2^s=a+b*2^s:=by
  rw [Nat.or_comm,← Nat.shiftLeft_eq,← Nat.shiftLeft_add_eq_or_of_lt h,Nat.add_comm]
theorem Gz0 {n:Nat} (h:n<34359738368):IntKind.i64.wrap (IntKind.u64.wrap ((n:Int).tdiv 32))=((n/32:Nat):Int)∧(n:Int).tmod 32=((n%32:Nat):Int):=by
  have e:(n:Int).tdiv 32=((n/32:Nat):Int):=rfl
  refine ⟨?_,rfl⟩
  rw [e,Bd2 (by omega),wrN (by omega)]
theorem Gf8 (n:Nat):nn (n:Int)=some ():=by unfold nn;rw [if_pos (by omega)]
theorem Hh9 {a n:Nat} (hn:n<34359738368) (ha:(W a).length≤4294967296):Bu4 (W a) (n:Int)=some (W (a*2^n)):=by
  unfold Bu4
  obtain ⟨e1,e2⟩:=Gz0 hn
  simp only [Option.bind_some,e1]
  by_cases h0:a=0
  · subst h0
    rw [At9,Nat.zero_mul,At9];rfl
  have hne:(W a).length≠0:=fun e=>h0 (Ef1.1 (List.eq_nil_of_length_eq_zero e))
  rw [Aa8 (by simpa using fun e=>hne (by simp [e])),Dd8 (by omega),wrU (by omega),Bm3 (by omega),Option.bind_some]
  generalize hw:n/32=w at *
  generalize hs:n%32=s at *
  have hs32:s<32:=by omega
  have hpow:(2:Nat)^n=2^s*4294967296^w:=by
    rw [show (4294967296:Nat)=2^32 from rfl,← Nat.pow_mul,← Nat.pow_add];congr 1;omega
  have p32:(2:Nat)^s*2^(32-s)=4294967296:=by rw [← Nat.pow_add,show s+(32-s)=32 by omega]
  have ps:0<2^s:=Nat.two_pow_pos s
  have ps2:0<2^(32-s):=Nat.two_pow_pos (32-s)
  have ple:(2:Nat)^s≤4294967296:=by
    rw [← p32];exact Nat.le_mul_of_pos_right _ ps2
  obtain ⟨o,ho,hwd,hl,hv⟩:=Bj2 (b:=Bc5 (W a) (n:Int)) (fun i t=>∃ r,t=((i:Int),r)∧Wd r∧r.length=(W a).length+w+1∧wv r=(a%4294967296^i)*2^s*4294967296^w∧r.getD (i+w) 0<(2^s:Nat)∧∀ k,i+w<k→r.getD k 0=0) (W a).length (fun o=>Wd o∧o.length=(W a).length+w+1∧wv o=a*2^n) (by rw [Ae6];omega) (fun i t hi=>by
    rintro ⟨r,rfl,hr,hl,hv,hb,hz⟩
    unfold Bc5
    simp only [Option.bind_some,e1,e2]
    have hd:=Az1 a i
    generalize hx:dg a i=x at *
    have hiw:i+w<r.length:=by omega
    have hiw1:i+w+1<r.length:=by omega
    have hr0:=Cv7 hr (i+w)
    generalize hg:(r.getD (i+w) 0).toNat=g
    have hg':r.getD (i+w) 0=(g:Int):=by omega
    have hg2:g<2^s:=by omega
    have hxs:x*2^s<18446744073709551616:=by
      have:x*2^s≤4294967295*4294967296:=Nat.mul_le_mul (by omega) ple
      omega
    have hlo:g+x*2^s%4294967296<4294967296:=by
      have e:x*2^s%4294967296=(x%2^(32-s))*2^s:=by
        rw [← p32,Nat.mul_comm (2^s),Nat.mul_mod_mul_right]
      have:x%2^(32-s)<2^(32-s):=Nat.mod_lt _ ps2
      have:(x%2^(32-s)+1)*2^s≤2^(32-s)*2^s:=Nat.mul_le_mul_right _ this
      rw [Nat.add_mul,Nat.mul_comm (2^(32-s)),p32] at this
      omega
    have hor:g ||| x*2^s%4294967296=g+x*2^s%4294967296:=by
      have e:x*2^s%4294967296=(x%2^(32-s))*2^s:=by
        rw [← p32,Nat.mul_comm (2^s),Nat.mul_mod_mul_right]
      rw [e,Dz9 hg2]
    rw [Aa6 (by simp;omega),Bh5 (Cd3 a) hi,Option.bind_some,Bq9,hx,Gf8,Option.bind_some,Dd8 (by omega),Ab8 0 hiw]
    simp only [Option.bind_some,Int.toNat_natCast]
    rw [hg',Bd2 (n:=x) (by omega)]
    have eb:min (s:Nat) IntKind.u64.bits=s:=by
      have:IntKind.u64.bits=64:=rfl
      omega
    rw [eb]
    have ex:((x:Int)*2^s)=((x*2^s:Nat):Int):=by simp
    rw [ex,Bd2 hxs,Fn5 (x*2^s),Hc5,fdn,Ho8 (by omega) (by omega),hor,Fn5 (g+x*2^s%4294967296),Nat.mod_eq_of_lt hlo,wrU (by omega),Ab8 0 (by rw [List.length_set];exact hiw1)]
    have hset1:(r.set (i+w) ((g+x*2^s%4294967296:Nat):Int)).getD (i+w+1) 0=0:=by
      rw [List.getD_eq_getElem?_getD,List.getElem?_set_ne (by omega),← List.getD_eq_getElem?_getD]
      exact hz _ (by omega)
    have hhi:x*2^s/2^32<2^s:=by
      rw [show (2:Nat)^32=4294967296 from rfl]
      refine (Nat.div_lt_iff_lt_mul (by omega)).2 ?_
      rw [Nat.mul_comm]
      exact Nat.mul_lt_mul_of_pos_left hd ps
    rw [hset1]
    simp only [Option.bind_some,Int.toNat_natCast]
    rw [show (0:Int)=((0:Nat):Int) from rfl,Fn5 (x*2^s/2^32),Nat.mod_eq_of_lt (Nat.lt_of_lt_of_le hhi ple),Ho8 (by omega) (Nat.lt_of_lt_of_le hhi ple),Nat.zero_or,Fn5 (x*2^s/2^32),Nat.mod_eq_of_lt (Nat.lt_of_lt_of_le hhi ple),wrU (by omega)]
    have w1:Wd (r.set (i+w) ((g+x*2^s%4294967296:Nat):Int)):=Dw3 hr (by omega) (by omega)
    refine ⟨_,rfl,_,rfl,Dw3 w1 (by omega) (by have:=Nat.lt_of_lt_of_le hhi ple;omega),by rw [List.length_set,List.length_set];exact hl,?_,?_,fun k hk=>?_⟩
    · have s1:=Du9 (l:=r) ((g+x*2^s%4294967296:Nat):Int) hiw
      have s2:=Du9 (l:=r.set (i+w) ((g+x*2^s%4294967296:Nat):Int)) ((x*2^s/2^32:Nat):Int) (k:=i+w+1) (by rw [List.length_set];exact hiw1)
      rw [hg,Int.toNat_natCast,Nat.add_mul] at s1
      rw [hset1,Int.toNat_natCast,show (2:Nat)^32=4294967296 from rfl,Nat.pow_succ] at s2
      simp only [Int.toNat_zero,Nat.zero_mul,Nat.add_zero] at s2
      rw [show (2:Nat)^32=4294967296 from rfl,s2,Ah0,hx]
      have hdm:=Nat.div_add_mod (x*2^s) 4294967296
      generalize hS:x*2^s=S at *
      have e3:S/4294967296*(4294967296^(i+w)*4294967296)+S%4294967296*4294967296^(i+w)=S*4294967296^(i+w):=by
        conv=>rhs;rw [← hdm]
        rw [Nat.add_mul]
        congr 1
        ac_rfl
      have e4:(a%4294967296^i+x*4294967296^i)*2^s*4294967296^w=a%4294967296^i*2^s*4294967296^w+S*4294967296^(i+w):=by
        rw [Nat.add_mul,Nat.add_mul,← hS,Nat.pow_add]
        congr 1
        ac_rfl
      rw [e4]
      omega
    · rw [show i+1+w=i+w+1 by omega,List.getD_eq_getElem?_getD,List.getElem?_set_self (by rw [List.length_set];exact hiw1)]
      simp only [Option.getD_some]
      omega
    · rw [List.getD_eq_getElem?_getD,List.getElem?_set_ne (by omega),List.getElem?_set_ne (by omega),← List.getD_eq_getElem?_getD]
      exact hz k (by omega)) (fun t=>by
    rintro ⟨r,rfl,hr,hl,hv,hb,hz⟩
    unfold Bc5
    simp only [Option.bind_some]
    rw [Aa8 (by simp)]
    exact ⟨r,rfl,hr,hl,by rw [hv,Bn8 (Ae9 a),hpow,Nat.mul_assoc]⟩) (s0:=(0,List.replicate ((W a).length+w+1) 0)) ⟨_,rfl,Fg5 _,by simp,by rw [Fk7,Nat.pow_zero,Nat.mod_one];simp,by
      rw [List.getD_eq_getElem?_getD]
      simp only [Nat.zero_add]
      rcases Nat.lt_or_ge w ((W a).length+w+1) with hk | hk
      · have e:((List.replicate ((W a).length+w+1) (0:Int))[w]?).getD 0=0:=by simp [hk]
        rw [e]
        exact Int.ofNat_lt.2 ps
      · omega,fun k _=>by
      rw [List.getD_eq_getElem?_getD]
      rcases Nat.lt_or_ge k ((W a).length+w+1) with hk | hk
      · simp [hk]
      · rw [List.getElem?_eq_none (by simpa using hk)];rfl⟩
  rw [ho,Option.bind_some,Bn3 hwd (by omega),hv]
theorem Go0 (a n i:Nat):dg (a/2^n) i=(dg a (i+n/32)+dg a (i+n/32+1)*4294967296)/2^(n%32)%4294967296:=by
  generalize hs:n%32=s
  generalize hw:n/32=w
  have hn:n=32*w+s:=by omega
  have e1:a/2^n/4294967296^i=a/4294967296^(i+w)/2^s:=by
    rw [Nat.div_div_eq_div_mul,Nat.div_div_eq_div_mul,show (4294967296:Nat)=2^32 from rfl,← Nat.pow_mul,← Nat.pow_mul,← Nat.pow_add,← Nat.pow_add]
    congr 2;omega
  have e2:dg a (i+w+1)=a/4294967296^(i+w)/4294967296%4294967296:=by
    unfold dg;rw [Nat.pow_succ,Nat.div_div_eq_div_mul]
  unfold dg at *
  rw [e1,e2]
  generalize a/4294967296^(i+w)=Z
  have hs32:s<32:=by omega
  have p32:(2:Nat)^s*2^(32-s)=4294967296:=by rw [← Nat.pow_add,show s+(32-s)=32 by omega]
  have hZ:Z=(Z%4294967296+Z/4294967296%4294967296*4294967296)+2^s*(2^(32-s)*4294967296*(Z/18446744073709551616)):=by
    have:2^s*(2^(32-s)*4294967296*(Z/18446744073709551616))=18446744073709551616*(Z/18446744073709551616):=by
      rw [← Nat.mul_assoc,← Nat.mul_assoc,p32]
    rw [this];omega
  generalize hY:Z%4294967296+Z/4294967296%4294967296*4294967296=Y at *
  conv=>lhs;rw [hZ]
  rw [Nat.add_mul_div_left _ _ (Nat.two_pow_pos s)]
  have:2^(32-s)*4294967296*(Z/18446744073709551616)=4294967296*(2^(32-s)*(Z/18446744073709551616)):=by ac_rfl
  rw [this,Nat.add_mul_mod_self_left]
theorem Gx2 {a n:Nat} (hn:n<18446744073709551616) (ha:(W a).length≤4294967296):Be8 (W a) (n:Int)=some (W (a/2^n)):=by
  unfold Be8
  have e0:(n:Int).tdiv 32=((n/32:Nat):Int):=rfl
  have e1:IntKind.i64.wrap (IntKind.u64.wrap ((n:Int).tdiv 32))=((n/32:Nat):Int):=by rw [e0,Bd2 (by omega),wrN (by omega)]
  have e2:(n:Int).tmod 32=((n%32:Nat):Int):=rfl
  simp only [Option.bind_some,e1]
  rcases Nat.lt_or_ge (n/32) (W a).length with h | h
  · rw [Aa8 (by simp;omega)]
    have e3:IntKind.i64.wrap ((((W a).length:Nat):Int)-((n/32:Nat):Int))=(((W a).length-n/32:Nat):Int):=by rw [wrI (by omega) (by omega)];omega
    rw [e3,Bm3 (by omega),Option.bind_some]
    have loop:=Ab9 (b:=As5 (W a) (n:Int)) (fun i=>((i:Int),dl ((W a).length-n/32) i (a/2^n))) (o:=dl ((W a).length-n/32) ((W a).length-n/32) (a/2^n)) ((W a).length-n/32) (by rw [Ae6];omega) (fun i hi=>by
      unfold As5
      simp only [Option.bind_some,e1,e2,Ax5]
      have h1:=Az1 a (i+n/32)
      have h2:=Az1 a (i+n/32+1)
      rw [Aa6 (by simp;omega),Dd8 (by omega),Bh5 (Cd3 a) (by omega),Option.bind_some,Bq9,wrU (by omega)]
      have e4:(cond (decide (((i+n/32+1:Nat):Int)<(((W a).length:Nat):Int))) ((atI (W a) ((i+n/32+1:Nat):Int)).bind fun t11=>some (IntKind.u64.wrap (BitVec.ofInt IntKind.u64.bits (IntKind.u64.wrap ((dg a (i+n/32):Nat):Int)) ||| BitVec.ofInt IntKind.u64.bits (IntKind.u64.wrap ((IntKind.u64.wrap t11)*2^(min (32:Int).toNat IntKind.u64.bits)))).toNat)) (some (IntKind.u64.wrap ((dg a (i+n/32):Nat):Int))))=some ((dg a (i+n/32)+dg a (i+n/32+1)*4294967296:Nat):Int):=by
        rw [Bd2 (n:=dg a (i+n/32)) (by omega)]
        rcases Nat.lt_or_ge (i+n/32+1) (W a).length with k | k
        · rw [Aa6 (by rw [decide_eq_true_iff];omega),Bh5 (Cd3 a) k,Option.bind_some,Bq9,Bd2 (n:=dg a (i+n/32+1)) (by omega),Hc5]
          have ex:((dg a (i+n/32+1):Nat):Int)*2^32=((dg a (i+n/32+1)*4294967296:Nat):Int):=by simp
          have hor:dg a (i+n/32) ||| dg a (i+n/32+1)*4294967296=dg a (i+n/32)+dg a (i+n/32+1)*4294967296:=Dz9 (s:=32) h1
          rw [ex,Bd2 (n:=dg a (i+n/32+1)*4294967296) (by omega),Hs3 (by omega) (by omega),hor,Bd2 (by omega)]
        · rw [Aa8 (by simp;omega),show dg a (i+n/32+1)=0 from Bk8 (Nat.lt_of_lt_of_le (Ae9 a) (Nat.pow_le_pow_right (by omega) k))]
          simp
      rw [e4,Option.bind_some,Gf8,Option.bind_some,Ab8 0 (by rw [Ax5];omega)]
      simp only [Option.bind_some,Int.toNat_natCast]
      have eb:min (n%32) IntKind.u64.bits=n%32:=by
        have:IntKind.u64.bits=64:=rfl
        omega
      rw [eb,fdn,Fn5,← Go0,Fh6,wrU (by omega)]) (by
      unfold As5
      simp only [Option.bind_some,Ax5]
      rw [Aa8 (by simp)])
    rw [Ey8] at loop
    have loop:Ag0 (As5 (W a) (n:Int)) FU (0,List.replicate ((W a).length-n/32) 0)=_:=loop
    rw [loop,Option.bind_some,Bn3 (Fr7 _ _ _) (by rw [Ax5];omega),Gb2]
    refine Nat.lt_of_le_of_lt (Nat.div_le_div_left (Nat.pow_le_pow_right (by omega) (show 32*(n/32)≤n by omega)) (Nat.two_pow_pos _)) ?_
    refine (Nat.div_lt_iff_lt_mul (Nat.two_pow_pos _)).2 ?_
    rw [Nat.pow_mul,show (2:Nat)^32=4294967296 from rfl,← Nat.pow_add,show (W a).length-n/32+n/32=(W a).length by omega]
    exact Ae9 a
  · rw [Aa6 (by simp;omega)]
    have:a/2^n=0:=by
      refine Nat.div_eq_of_lt (Nat.lt_of_lt_of_le (Ae9 a) ?_)
      rw [show (4294967296:Nat)=2^32 from rfl,← Nat.pow_mul]
      exact Nat.pow_le_pow_right (by omega) (by omega)
    rw [this,At9]
theorem Gx7 {n:Nat} (h:n≠0):blN n=blN (n/2)+1:=by
  unfold blN
  rw [if_neg h]
  by_cases h1:n/2=0
  · have:n=1:=by omega
    subst this;decide
  · rw [if_neg h1,Nat.log2_def n,if_pos (by omega)]
theorem Fz6 (n k:Nat) (h:2^k≤n):blN (n/2^k)+k=blN n:=by
  induction k generalizing n with
  | zero=>simp
  | succ k ih=>
    have hp:0<2^k:=Nat.two_pow_pos k
    rw [Nat.pow_succ] at h
    have hn:n≠0:=by omega
    rw [Nat.pow_succ,Nat.mul_comm,← Nat.div_div_eq_div_mul,← Nat.add_assoc,ih (n/2) (by omega),← Gx7 hn]
theorem El6 {n k:Nat}:blN n≤k↔n<2^k:=by
  unfold blN
  by_cases h:n=0
  · subst h;simp;exact Nat.two_pow_pos k
  · rw [if_neg h]
    constructor
    · intro hk;exact Nat.lt_of_lt_of_le Nat.lt_log2_self (Nat.pow_le_pow_right (by omega) hk)
    · intro hk;have:=(Nat.log2_lt h).2 hk;omega
theorem Gi2 {t:Nat} (ht:t<4294967296):Ag0 Ap4 FU (0,(t:Int))=some ((blN t:Nat):Int):=by
  have hb:blN t≤32:=El6.2 (by simpa using ht)
  have:=Ab9 (b:=Ap4) (fun i=>((i:Int),((t/2^i:Nat):Int))) (o:=((blN t:Nat):Int)) (blN t) (by rw [Ae6];omega) (fun i hi=>by
    unfold Ap4
    dsimp only
    have hne:t/2^i≠0:=by
      intro e
      have:t<2^i:=by
        rcases Nat.lt_or_ge t (2^i) with k | k
        · exact k
        · have:=Nat.div_pos k (Nat.two_pow_pos i);omega
      have:=El6.2 this
      omega
    rw [Aa6 (by rw [bne_iff_ne];omega),show min (1:Int).toNat IntKind.u32.bits=1 by decide,fdn,wrU (by omega),Nat.div_div_eq_div_mul,← Nat.pow_add]) (by
    unfold Ap4
    dsimp only
    have:t/2^blN t=0:=Nat.div_eq_of_lt (El6.1 (Nat.le_refl _))
    rw [this]
    rfl)
  simpa using this
theorem Hr8 {a:Nat} (h:a≠0):(W a).length≠0∧dg a ((W a).length-1)=a/4294967296^((W a).length-1)∧4294967296^((W a).length-1)≤a:=by
  have hl:(W a).length≠0:=fun e=>h (Ef1.1 (List.eq_nil_of_length_eq_zero e))
  refine ⟨hl,?_,Ff3 h⟩
  unfold dg
  refine Nat.mod_eq_of_lt ((Nat.div_lt_iff_lt_mul (Ah3 _)).2 ?_)
  have:=Ae9 a
  rw [show (W a).length=((W a).length-1)+1 by omega,Nat.pow_succ,Nat.mul_comm] at this
  exact this
theorem Gh8 {a:Nat} (ha:(W a).length≤4294967296):Bf7 (W a)=some ((blN a:Nat):Int):=by
  unfold Bf7
  simp only [Option.bind_some]
  by_cases h0:a=0
  · subst h0;rw [At9];rfl
  · obtain ⟨hl,ht,hge⟩:=Hr8 h0
    have e:IntKind.i64.wrap ((((W a).length:Nat):Int)-1)=(((W a).length-1:Nat):Int):=by rw [wrI (by omega) (by omega)];omega
    have hb:=Fz6 a (32*((W a).length-1)) (by rw [Nat.pow_mul];exact hge)
    have hd:a/2^(32*((W a).length-1))=dg a ((W a).length-1):=by rw [ht,Nat.pow_mul]
    rw [hd] at hb
    have hb32:blN (dg a ((W a).length-1))≤32:=El6.2 (by have:=Az1 a ((W a).length-1);simpa using this)
    rw [Aa8 (by rw [beq_eq_false_iff_ne];omega),e,Bh5 (Cd3 a) (by omega),Option.bind_some,Bq9,Gi2 (Az1 _ _),Option.bind_some,wrI (n:=(((W a).length-1:Nat):Int)*32) (by omega) (by omega),wrI (by omega) (by omega)]
    congr 1;omega
theorem Gu2 {a b:Nat} (ha:(W a).length≤4294967296) (hb:(W b).length≤4294967296):Bw8 (W a) (W b)=some (if a<b then -1 else if a=b then 0 else 1):=by
  unfold Bw8
  simp only [Option.bind_some]
  by_cases hl:(W a).length=(W b).length
  · rw [Aa8 (by simp [hl])]
    -- the first word from above that parts
    rcases Az2 (fun i=>dg a ((W a).length-1-i) != dg b ((W a).length-1-i)) (W a).length with h | ⟨i,hi,h1,h2⟩
    · have hab:a=b:=by
        have e:W a=W b:=Cy3 0 hl fun k hk=>by
          rw [Ft9,Ft9]
          have:=h ((W a).length-1-k) (by omega)
          rw [show (W a).length-1-((W a).length-1-k)=k by omega] at this
          have:dg a k=dg b k:=by simpa using this
          rw [this]
        rw [← Bq9 a,← Bq9 b,e]
      subst hab
      have loop:=Ab9 (b:=Ar8 (W a) (W a)) (fun i=>(((W a).length:Nat):Int)-1-(i:Int)) (o := .inl ()) (W a).length (by rw [Ae6];omega) (fun i hi=>by
        unfold Ar8
        dsimp only
        have e:(((W a).length:Nat):Int)-1-(i:Int)=(((W a).length-1-i:Nat):Int):=by omega
        have e2:IntKind.i64.wrap ((((W a).length:Nat):Int)-1-(i:Int)-1)=(((W a).length:Nat):Int)-1-((i+1:Nat):Int):=by rw [wrI (by omega) (by omega)];omega
        rw [Aa6 (by simp;omega),e2,e,Bh5 (Cd3 a) (by omega)]
        simp) (by
        unfold Ar8
        dsimp only
        rw [Aa8 (by rw [decide_eq_false_iff_not];omega)])
      have e:IntKind.i64.wrap ((((W a).length:Nat):Int)-1)=(((W a).length:Nat):Int)-1-((0:Nat):Int):=by rw [wrI (by omega) (by omega)];omega
      rw [e,loop]
      simp
    · have hj:(W a).length-1-i<(W a).length:=by omega
      generalize hJ:(W a).length-1-i=j at *
      have same:∀ k,j<k→dg a k=dg b k:=fun k hk=>by
        rcases Nat.lt_or_ge k (W a).length with hk2 | hk2
        · have:=h2 ((W a).length-1-k) (by omega)
          rw [show (W a).length-1-((W a).length-1-k)=k by omega] at this
          simpa using this
        · rw [Bk8 (Nat.lt_of_lt_of_le (Ae9 a) (Nat.pow_le_pow_right (by omega) hk2)),Bk8 (Nat.lt_of_lt_of_le (Ae9 b) (Nat.pow_le_pow_right (by omega) (by omega)))]
      have high:a/4294967296^(j+1)=b/4294967296^(j+1):=by
        -- equal words above
        have key:∀ m,a/4294967296^(j+1)%4294967296^m=b/4294967296^(j+1)%4294967296^m:=by
          intro m
          induction m with
          | zero=>simp [Nat.mod_one]
          | succ m ih=>
            have d:∀ x:Nat,dg (x/4294967296^(j+1)) m=dg x (j+1+m):=fun x=>by
              unfold dg;rw [Nat.div_div_eq_div_mul,← Nat.pow_add]
            rw [Ah0,Ah0,ih,d,d,same _ (by omega)]
        have la:a/4294967296^(j+1)<4294967296^(W a).length:=Nat.lt_of_le_of_lt (Nat.div_le_self _ _) (Ae9 a)
        have lb:b/4294967296^(j+1)<4294967296^(W a).length:=Nat.lt_of_le_of_lt (Nat.div_le_self _ _) (by rw [hl];exact Ae9 b)
        have:=key (W a).length
        rwa [Bn8 la,Bn8 lb] at this
      have ea:=Ah0 a j
      have eb:=Ah0 b j
      have da:=Nat.div_add_mod a (4294967296^(j+1))
      have db:=Nat.div_add_mod b (4294967296^(j+1))
      have la:=Nat.mod_lt a (Ah3 j)
      have lb:=Nat.mod_lt b (Ah3 j)
      rw [high] at da
      have loop:=Ab9 (b:=Ar8 (W a) (W b)) (fun i=>(((W a).length:Nat):Int)-1-(i:Int)) (o := .inr (if dg a j<dg b j then -1 else 1)) i (by rw [Ae6];omega) (fun k hk=>by
        unfold Ar8
        dsimp only
        have e:(((W a).length:Nat):Int)-1-(k:Int)=(((W a).length-1-k:Nat):Int):=by omega
        have e2:IntKind.i64.wrap ((((W a).length:Nat):Int)-1-(k:Int)-1)=(((W a).length:Nat):Int)-1-((k+1:Nat):Int):=by rw [wrI (by omega) (by omega)];omega
        have hs:dg a ((W a).length-1-k)=dg b ((W a).length-1-k):=same _ (by omega)
        rw [Aa6 (by simp;omega),e2,e,Bh5 (Cd3 a) (by omega),Option.bind_some,Bh5 (Cd3 b) (by omega),Option.bind_some,Bq9,Bq9,hs]
        simp) (by
        unfold Ar8
        dsimp only
        have e:(((W a).length:Nat):Int)-1-(i:Int)=((j:Nat):Int):=by omega
        have hne:dg a j≠dg b j:=by simpa using h1
        rw [Aa6 (by simp;omega),e,Bh5 (Cd3 a) (by omega),Option.bind_some,Bh5 (Cd3 b) (by omega),Option.bind_some,Bq9,Bq9,Aa6 (by rw [bne_iff_ne];omega)]
        simp only [Option.bind_some]
        by_cases hlt:dg a j<dg b j
        · rw [if_pos hlt,Aa6 (by simpa using hlt)]
        · rw [if_neg hlt,Aa8 (by simpa using hlt)])
      have e:IntKind.i64.wrap ((((W a).length:Nat):Int)-1)=(((W a).length:Nat):Int)-1-((0:Nat):Int):=by rw [wrI (by omega) (by omega)];omega
      rw [e,loop]
      have hne:dg a j≠dg b j:=by simpa using h1
      rw [Option.bind_some]
      dsimp only
      congr 1
      generalize 4294967296^(j+1)*(b/4294967296^(j+1))=H at *
      generalize 4294967296^j=P at *
      by_cases hlt:dg a j<dg b j
      · have:(dg a j+1)*P≤dg b j*P:=Nat.mul_le_mul_right _ hlt
        rw [Nat.add_mul] at this
        rw [if_pos hlt,if_pos (by omega)]
      · have:(dg b j+1)*P≤dg a j*P:=Nat.mul_le_mul_right _ (by omega)
        rw [Nat.add_mul] at this
        rw [if_neg hlt,if_neg (by omega),if_neg (by omega)]
  · rw [Aa6 (by rw [bne_iff_ne];omega)]
    by_cases hlt:(W a).length<(W b).length
    · have:a<b:=by
        rcases Nat.lt_or_ge a b with k | k
        · exact k
        · have:=Cn8 k;omega
      rw [Aa6 (by simpa using hlt),if_pos this]
    · have:b<a:=by
        rcases Nat.lt_or_ge b a with k | k
        · exact k
        · have:=Cn8 k;omega
      rw [Aa8 (by simpa using hlt),if_neg (by omega),if_neg (by omega)]
end Go.Eng
/-
  Whole numbers of any size: what each method comes to, on the words of a number. No condition.
-/
set_option maxRecDepth 100000
set_option maxHeartbeats 4000000
namespace Go.Eng
open Go
theorem Ay8 {z:Int} (h:z.natAbs.log2<34359738368):(W z.natAbs).length≤1073741824:=by
  have:=Fx9 z.natAbs
  omega
theorem Dv2 (n:Nat):decide (0<(W n).length)=decide (n≠0):=by
  by_cases h:n=0
  · subst h;rw [At9];rfl
  · have:(W n).length≠0:=fun e=>h (Ef1.1 (List.eq_nil_of_length_eq_zero e))
    rw [decide_eq_true h,decide_eq_true (by omega)]
theorem Aq0 {z:Int} {f:Int→Option Int} {y:Int} (h:(Cw8 z).bind f=some y):z.natAbs.log2<34359738368∧f z=some y:=by
  obtain ⟨a,h1,h2⟩:=bnd h
  obtain ⟨rfl,h3⟩:=Gp7 h1
  exact ⟨h3,h2⟩
theorem Hd7 {z y:Int} (h:Ao5 z=some y):Cj7 (decide (z<0)) (W z.natAbs)=some y:=by
  unfold Ao5 at h
  rw [← Option.some.inj h]
  unfold Cj7
  rw [Option.bind_some]
  by_cases hz:z=0
  · subst hz
    rw [show (0:Int).natAbs=0 from rfl,At9];rfl
  · have:(W z.natAbs).length≠0:=fun e=>by have:=Ef1.1 (List.eq_nil_of_length_eq_zero e);omega
    rw [Aa8 (by rw [beq_eq_false_iff_ne];omega)]
    by_cases hn:z<0
    · rw [decide_eq_true hn,cT,if_pos hn]
    · rw [decide_eq_false hn,cF,if_neg hn,if_neg hz]
theorem Go2 {z y:Int} (h:Br5 z=some y):Bp1 (decide (z<0)) (W z.natAbs)=some y:=by
  obtain ⟨h1,h2⟩:=Aq0 h
  unfold Bp1
  rw [Gh8 (by have:=Ay8 h1;omega)]
  exact h2
theorem Go9 {z y:Int} (h:An2 z=some y):Bo8 (decide (z<0)) (W z.natAbs)=some y:=by
  unfold An2 at h
  rw [← Option.some.inj h]
  unfold Bo8
  generalize z.natAbs=n
  simp only [Option.bind_some]
  have h0:=Az1 n 0
  have h1:=Az1 n 1
  have e0:dg n 0=n%4294967296:=Ee3 n
  have e1:dg n 1=n/4294967296%4294967296:=by unfold dg;rw [Nat.pow_one]
  have a0:(cond (decide ((((W n).length:Nat):Int)>0)) ((atI (W n) 0).bind fun t3=>some (IntKind.u64.wrap t3)) (some 0))=some ((dg n 0:Nat):Int):=by
    rcases Nat.lt_or_ge 0 (W n).length with k | k
    · rw [Aa6 (by rw [decide_eq_true_iff];omega),show (0:Int)=((0:Nat):Int) from rfl,Bh5 (Cd3 n) k,Option.bind_some,Bq9,Bd2 (by omega)]
    · have:n=0:=Ef1.1 (List.eq_nil_of_length_eq_zero (by omega))
      subst this
      rw [Aa8 (by rw [decide_eq_false_iff_not];omega)];rfl
  rw [a0,Option.bind_some]
  rcases Nat.lt_or_ge 1 (W n).length with k | k
  · have ex:((dg n 1:Nat):Int)*2^32=((dg n 1*4294967296:Nat):Int):=by simp
    have hor:dg n 0 ||| dg n 1*4294967296=dg n 0+dg n 1*4294967296:=Dz9 (s:=32) h0
    rw [Aa6 (by rw [decide_eq_true_iff];omega),show (1:Int)=((1:Nat):Int) from rfl,Bh5 (Cd3 n) k,Option.bind_some,Bq9,Bd2 (n:=dg n 1) (by omega),Hc5,ex,Bd2 (n:=dg n 1*4294967296) (by omega),Hs3 (by omega) (by omega),hor,Bd2 (by omega)]
    simp only [Option.bind_some]
    congr 1;omega
  · have hl:=Nat.lt_of_lt_of_le (Ae9 n) (Nat.pow_le_pow_right (n:=4294967296) (by omega) k)
    rw [Aa8 (by rw [decide_eq_false_iff_not];omega)]
    simp only [Option.bind_some]
    congr 1;omega
theorem Fd9 {n y:Int} (h:Ao0 n=some y):Ba7 n=some (decide (y<0),W y.natAbs):=by
  unfold Ao0 at h
  split at h
  · rename_i hn
    obtain rfl:=Option.some.inj h
    obtain ⟨k,rfl⟩:∃ k:Nat,n=k:=⟨n.toNat,by omega⟩
    unfold Ba7
    rw [Ft7 (by omega),Option.bind_some,Option.bind_some,Bool.false_and,decide_eq_false (by omega)]
    rfl
  · cases h
theorem Fn4 {n y:Int} (h:Bn9 n=some y):Be1 n=some (decide (y<0),W y.natAbs):=by
  unfold Bn9 at h
  split at h
  · rename_i hn
    obtain rfl:=Option.some.inj h
    unfold Be1
    have e:(cond (decide (n<0)) (some (IntKind.u64.wrap (0-(IntKind.u64.wrap n)))) (some (IntKind.u64.wrap n)))=some ((n.natAbs:Nat):Int):=by
      by_cases h0:n<0
      · rw [Aa6 (by simpa using h0),w64,w64];congr 1;omega
      · rw [Aa8 (by simpa using h0),w64];congr 1;omega
    rw [e,Option.bind_some,Ft7 (by omega),Option.bind_some,Option.bind_some,Dv2]
    have:(decide (n<0)&&decide (n.natAbs≠0))=decide (n<0):=by
      by_cases h0:n<0
      · rw [decide_eq_true h0,decide_eq_true (by omega)];rfl
      · rw [decide_eq_false h0];rfl
    rw [this]
  · cases h
theorem Hh4 {z y:Int} (h:Bp5 z=some y):Bx1 (decide (z<0)) (W z.natAbs)=some (decide (y<0),W y.natAbs):=by
  obtain ⟨h1,h2⟩:=Aq0 h
  obtain rfl:=Option.some.inj h2
  unfold Bx1
  rw [Gq8 (by have:=Ay8 h1;omega),Option.bind_some,Option.bind_some,Bool.false_and,decide_eq_false (by omega)]
  rfl
theorem Hn3 {z y:Int} (h:Fi4 z=some y):Cy7 (decide (z<0)) (W z.natAbs)=some (decide (y<0),W y.natAbs):=by
  obtain ⟨h1,h2⟩:=Aq0 h
  obtain rfl:=Option.some.inj h2
  unfold Cy7
  rw [Gq8 (by have:=Ay8 h1;omega),Option.bind_some,Option.bind_some,Dv2,Int.natAbs_neg]
  have:((!decide (z<0))&&decide (z.natAbs≠0))=decide (-z<0):=by
    rcases Int.lt_trichotomy z 0 with h | h | h
    · rw [decide_eq_true h,decide_eq_false (by omega : ¬ -z<0)];rfl
    · subst h;rfl
    · rw [decide_eq_false (by omega),decide_eq_true (by omega),decide_eq_true (by omega)];rfl
  rw [this]
theorem He6 {z n y:Int} (h:Ar5 z n=some y):Bw5 (decide (z<0)) (W z.natAbs) n=some (decide (y<0),W y.natAbs):=by
  unfold Ar5 at h
  split at h
  · rename_i hn
    obtain ⟨h1,h2⟩:=Aq0 h
    obtain ⟨rfl,h3⟩:=Gp7 h2
    obtain ⟨k,rfl⟩:∃ k:Nat,n=k:=⟨n.toNat,by omega⟩
    unfold Bw5
    have hp:0<2^k:=Nat.two_pow_pos k
    rw [Hh9 (by omega) (by have:=Ay8 h1;omega),Option.bind_some,Option.bind_some,Dv2,Int.toNat_natCast,Int.natAbs_mul,Int.natAbs_natCast]
    generalize 2^k=P at hp
    have:(decide (z<0)&&decide (z.natAbs*P≠0))=decide (z*(P:Int)<0):=by
      by_cases h0:z<0
      · have h4:z*(P:Int)<0:=Int.mul_neg_of_neg_of_pos h0 (by omega)
        have h5:z.natAbs*P≠0:=Nat.mul_ne_zero (by omega) (by omega)
        rw [decide_eq_true h0,decide_eq_true h4,decide_eq_true h5];rfl
      · have h4 : ¬ z*(P:Int)<0:=by have:=Int.mul_nonneg (show 0≤z by omega) (show (0:Int)≤P by omega);omega
        rw [decide_eq_false h0,decide_eq_false h4];rfl
    rw [this]
  · cases h
theorem Hl6 {z n y:Int} (h:Bi6 z n=some y):Bw6 (decide (z<0)) (W z.natAbs) n=some (decide (y<0),W y.natAbs):=by
  unfold Bi6 at h
  split at h
  · rename_i hn
    obtain ⟨h1,h2⟩:=Aq0 h
    obtain rfl:=Option.some.inj h2
    obtain ⟨k,rfl⟩:∃ k:Nat,n=k:=⟨n.toNat,by omega⟩
    unfold Bw6
    rw [decide_eq_false (show ¬ z<0 by omega),cF,Gx2 (by omega) (by have:=Ay8 h1;omega),Option.bind_some,Option.bind_some,Bool.false_and,Int.toNat_natCast,Int.natAbs_natCast,decide_eq_false (Int.not_lt.2 (Int.natCast_nonneg _))]
  · cases h
def sgZ (s:Bool) (a:Nat):Int:=if s then -(a:Int) else (a:Int)
theorem Hb4 (z:Int):sgZ (decide (z<0)) z.natAbs=z:=by
  unfold sgZ
  by_cases h:z<0
  · rw [decide_eq_true h,if_pos rfl];omega
  · rw [decide_eq_false h,if_neg (by simp)];omega
theorem He3 {s t:Bool} {a b:Nat} (ha:(W a).length≤1073741824) (hb:(W b).length≤1073741824) :
    ∃ f,Bw1 s (W a) t (W b)=some (f,W (sgZ s a+sgZ t b).natAbs)∧(f&&decide ((sgZ s a+sgZ t b).natAbs≠0))=decide (sgZ s a+sgZ t b<0):=by
  unfold Bw1
  by_cases hst:s=t
  · subst hst
    rw [Aa6 (by simp),Hn9 (by omega) (by omega),Option.bind_some]
    have e:(sgZ s a+sgZ s b).natAbs=a+b:=by unfold sgZ;cases s<;>simp<;>omega
    rw [e]
    refine ⟨s,rfl,?_⟩
    unfold sgZ
    cases s
    · simp;omega
    · simp only [if_true,Bool.true_and]
      rw [decide_eq_decide];omega
  · rw [Aa8 (by simpa using hst),Gu2 (by omega) (by omega),Option.bind_some]
    by_cases hab:a<b
    · rw [if_pos hab,Aa8 (by decide),Hf6 (by omega) (by omega),Option.bind_some]
      have e:(sgZ s a+sgZ t b).natAbs=b-a:=by unfold sgZ;cases s<;>cases t<;>simp at hst ⊢ <;> omega
      rw [e]
      refine ⟨t,rfl,?_⟩
      rw [Bool.eq_iff_iff,Bool.and_eq_true,decide_eq_true_iff,decide_eq_true_iff]
      clear e
      cases s<;>cases t<;>simp only [sgZ,eq_self,false_iff,if_true,Bool.false_eq_true,if_false,true_and,false_and,not_true_eq_false,not_false_eq_true,reduceCtorEq] at hst ⊢ <;> omega
    · have hc:decide ((if a<b then (-1:Int) else if a=b then 0 else 1)≥0)=true:=by
        rw [if_neg hab];split<;>decide
      rw [hc,cT,Hf6 (by omega) (by omega),Option.bind_some]
      have e:(sgZ s a+sgZ t b).natAbs=a-b:=by unfold sgZ;cases s<;>cases t<;>simp at hst ⊢ <;> omega
      rw [e]
      refine ⟨s,rfl,?_⟩
      rw [Bool.eq_iff_iff,Bool.and_eq_true,decide_eq_true_iff,decide_eq_true_iff]
      clear e
      cases s<;>cases t<;>simp only [sgZ,eq_self,false_iff,if_true,Bool.false_eq_true,if_false,true_and,false_and,not_true_eq_false,not_false_eq_true,reduceCtorEq] at hst ⊢ <;> omega
theorem Hm3 {x y z:Int} (h:Cl2 x y=some z):Cy6 (decide (x<0)) (W x.natAbs) (decide (y<0)) (W y.natAbs)=some (decide (z<0),W z.natAbs):=by
  obtain ⟨h1,h⟩:=Aq0 h
  obtain ⟨h2,h⟩:=Aq0 h
  obtain rfl:=Option.some.inj h
  unfold Cy6
  obtain ⟨f,e1,e2⟩:=He3 (s:=decide (x<0)) (t:=decide (y<0)) (Ay8 h1) (Ay8 h2)
  rw [Hb4,Hb4] at e1 e2
  rw [e1,Option.bind_some]
  dsimp only
  rw [Dv2,Option.bind_some,e2]
theorem Hn0 {x y z:Int} (h:Du0 x y=some z):Cz0 (decide (x<0)) (W x.natAbs) (decide (y<0)) (W y.natAbs)=some (decide (z<0),W z.natAbs):=by
  obtain ⟨h1,h⟩:=Aq0 h
  obtain ⟨h2,h⟩:=Aq0 h
  obtain rfl:=Option.some.inj h
  unfold Cz0
  obtain ⟨f,e1,e2⟩:=He3 (s:=decide (x<0)) (t := !decide (y<0)) (Ay8 h1) (Ay8 h2)
  have e3:sgZ (!decide (y<0)) y.natAbs = -y:=by
    unfold sgZ
    by_cases h:y<0
    · rw [decide_eq_true h];simp;omega
    · rw [decide_eq_false h];simp;omega
  rw [Hb4,e3,← Int.sub_eq_add_neg] at e1 e2
  rw [e1,Option.bind_some]
  dsimp only
  rw [Dv2,Option.bind_some,e2]
theorem Hp7 {x y z:Int} (h:Ei0 x y=some z):Cy4 (decide (x<0)) (W x.natAbs) (decide (y<0)) (W y.natAbs)=some (decide (z<0),W z.natAbs):=by
  obtain ⟨h1,h⟩:=Aq0 h
  obtain ⟨h2,h⟩:=Aq0 h
  obtain rfl:=Option.some.inj h
  unfold Cy4
  rw [Hp3 (by have:=Ay8 h1;have:=Ay8 h2;omega),Option.bind_some,Option.bind_some,Dv2,Int.natAbs_mul]
  have:((!(decide (x<0)==decide (y<0)))&&decide (x.natAbs*y.natAbs≠0))=decide (x*y<0):=by
    rcases Int.lt_trichotomy x 0 with a | a | a<;>rcases Int.lt_trichotomy y 0 with b | b | b
    · have:=Int.mul_pos_of_neg_of_neg a b
      rw [decide_eq_true a,decide_eq_true b,decide_eq_false (by omega : ¬ x*y<0)];rfl
    · subst b;simp
    · have:=Int.mul_neg_of_neg_of_pos a b
      have h5:x.natAbs*y.natAbs≠0:=Nat.mul_ne_zero (by omega) (by omega)
      rw [decide_eq_true a,decide_eq_false (by omega : ¬ y<0),decide_eq_true this,decide_eq_true h5];rfl
    · subst a;simp
    · subst a;simp
    · subst a;simp
    · have:=Int.mul_neg_of_pos_of_neg a b
      have h5:x.natAbs*y.natAbs≠0:=Nat.mul_ne_zero (by omega) (by omega)
      rw [decide_eq_false (by omega : ¬ x<0),decide_eq_true b,decide_eq_true this,decide_eq_true h5];rfl
    · subst b;simp
    · have:=Int.mul_pos a b
      rw [decide_eq_false (by omega : ¬ x<0),decide_eq_false (by omega : ¬ y<0),decide_eq_false (by omega : ¬ x*y<0)];rfl
  rw [this]
theorem Ho1 {x y z:Int} (h:Dt3 x y=some z):Cy8 (decide (x<0)) (W x.natAbs) (decide (y<0)) (W y.natAbs)=some z:=by
  obtain ⟨hx,h⟩:=Aq0 h
  obtain ⟨hy,h⟩:=Aq0 h
  obtain rfl:=Option.some.inj h
  unfold Cy8
  have lx:=Ay8 hx
  have ly:=Ay8 hy
  by_cases a:x<0<;>by_cases b:y<0
  · rw [decide_eq_true a,decide_eq_true b,Aa8 (by rfl),Gu2 (by omega) (by omega),Option.bind_some,cT]
    congr 1
    by_cases h1:x.natAbs<y.natAbs
    · rw [if_pos h1,if_neg (by omega),if_neg (by omega)];decide +kernel
    · by_cases h2:x.natAbs=y.natAbs
      · rw [if_neg h1,if_pos h2,if_neg (by omega),if_pos (by omega)];decide +kernel
      · rw [if_neg h1,if_neg h2,if_pos (by omega)];decide +kernel
  · rw [decide_eq_true a,decide_eq_false b,Aa6 (by rfl),cT,if_pos (by omega)]
  · rw [decide_eq_false a,decide_eq_true b,Aa6 (by rfl),cF,if_neg (by omega),if_neg (by omega)]
  · rw [decide_eq_false a,decide_eq_false b,Aa8 (by rfl),Gu2 (by omega) (by omega),Option.bind_some,cF]
    congr 1
    by_cases h1:x.natAbs<y.natAbs
    · rw [if_pos h1,if_pos (by omega)]
    · by_cases h2:x.natAbs=y.natAbs
      · rw [if_neg h1,if_pos h2,if_neg (by omega),if_pos (by omega)]
      · rw [if_neg h1,if_neg h2,if_neg (by omega),if_neg (by omega)]
theorem Hd8 {a i:Nat} (hi:i<9223372036854775808) (ha:(W a).length≤1073741824):Cm0 (W a) (i:Int)=some ((a/2^i%2:Nat):Int):=by
  unfold Cm0
  have e0:(i:Int).tdiv 32=((i/32:Nat):Int):=rfl
  rw [Aa6 (by simp),Option.bind_some,e0,wrN (by omega)]
  have hpow:(2:Nat)^i=4294967296^(i/32)*2^(i%32):=by
    rw [show (4294967296:Nat)=2^32 from rfl,← Nat.pow_mul,← Nat.pow_add];congr 1;omega
  rcases Nat.lt_or_ge (i/32) (W a).length with h | h
  · rw [Aa8 (by rw [decide_eq_false_iff_not];omega),Bh5 (Cd3 a) h,Option.bind_some,Bq9,Bd2 (n:=i) (by omega)]
    have e1:(i:Int).tmod 32=((i%32:Nat):Int):=rfl
    have e2:min (i%32) IntKind.u32.bits=i%32:=by
      have:IntKind.u32.bits=32:=rfl
      omega
    have hd:=Az1 a (i/32)
    have hle:dg a (i/32)/2^(i%32)≤dg a (i/32):=Nat.div_le_self _ _
    rw [e1,Gf8,Option.bind_some,Int.toNat_natCast,e2,fdn,Bd2 (n:=dg a (i/32)/2^(i%32)) (by omega),show (1:Int)=((1:Nat):Int) from rfl,Hr2 (by omega) (by omega),Nat.and_one_is_mod,Bd2 (by omega)]
    congr 2
    unfold dg
    rw [hpow,← Nat.div_div_eq_div_mul]
    generalize a/4294967296^(i/32)=Z
    have:(4294967296:Nat)=2^(i%32)*(2*2^(31-i%32)):=by
      rw [show (2:Nat)*2^(31-i%32)=2^(32-i%32) by rw [show 32-i%32=(31-i%32)+1 by omega,Nat.pow_succ,Nat.mul_comm],← Nat.pow_add,show i%32+(32-i%32)=32 by omega]
    conv=>lhs;rw [this]
    rw [Nat.mod_mul_right_div_self,Nat.mod_mul_right_mod]
  · rw [Aa6 (by rw [decide_eq_true_iff];omega)]
    have:a/2^i=0:=by
      refine Nat.div_eq_of_lt (Nat.lt_of_lt_of_le (Ae9 a) ?_)
      rw [show (4294967296:Nat)=2^32 from rfl,← Nat.pow_mul]
      exact Nat.pow_le_pow_right (by omega) (by omega)
    rw [this];rfl
theorem Dj4 {n:Nat} (h:n%2=1):tzN n=0:=by rw [Cv1,if_neg (by omega),if_pos h]
theorem Ff2 {n:Nat} (h0:n≠0) (h:n%2=0):tzN n=tzN (n/2)+1:=by rw [Cv1,if_neg h0,if_neg (by omega)]
theorem Gi4:tzN 0=0:=by rw [Cv1,if_pos rfl]
theorem Bv5 {n:Nat} (h:n≠0):n=2^tzN n*(n/2^tzN n)∧n/2^tzN n%2=1∧∀ i,i<tzN n→n/2^i%2=0:=by
  induction n using Nat.strongRecOn with
  | ind n ih=>
    by_cases h1:n%2=1
    · rw [Dj4 h1]
      exact ⟨by simp,by simpa using h1,fun i hi=>by omega⟩
    · have h0:n%2=0:=by omega
      obtain ⟨k1,k2,k3⟩:=ih (n/2) (by omega) (by omega)
      rw [Ff2 h h0]
      have e:n/2^(tzN (n/2)+1)=n/2/2^tzN (n/2):=by rw [Nat.pow_succ,Nat.mul_comm,← Nat.div_div_eq_div_mul]
      rw [e]
      refine ⟨?_,k2,fun i hi=>?_⟩
      · rw [Nat.pow_succ,Nat.mul_comm (2^tzN (n/2)) 2,Nat.mul_assoc,← k1];omega
      · cases i with
        | zero=>simpa using h0
        | succ i=>
          rw [Nat.pow_succ,Nat.mul_comm,← Nat.div_div_eq_div_mul]
          exact k3 i (by omega)
theorem Dt5 {n:Nat} (h:n≠0):tzN n<blN n:=by
  obtain ⟨k1,k2,_⟩:=Bv5 h
  have:2^tzN n≤n:=by
    have g:0<n/2^tzN n:=by
      rcases Nat.eq_zero_or_pos (n/2^tzN n) with g | g
      · rw [g] at k2;cases k2
      · exact g
    conv=>rhs;rw [k1]
    exact Nat.le_mul_of_pos_right _ g
  rcases Nat.lt_or_ge (tzN n) (blN n) with g | g
  · exact g
  · have:=El6.1 g;omega
theorem Ht3 {z y:Int} (h:Ai8 z=some y):Al5 (decide (z<0)) (W z.natAbs)=some y:=by
  obtain ⟨h1,h2⟩:=Aq0 h
  obtain rfl:=Option.some.inj h2
  have hl:=Ay8 h1
  unfold Al5
  rw [Option.bind_some]
  generalize z.natAbs=n at *
  by_cases h0:n=0
  · subst h0;rw [At9,Gi4];rfl
  · have:(W n).length≠0:=fun e=>h0 (Ef1.1 (List.eq_nil_of_length_eq_zero e))
    rw [Aa8 (by rw [beq_eq_false_iff_ne];omega)]
    obtain ⟨_,k2,k3⟩:=Bv5 h0
    have kl:=Dt5 h0
    have hb:blN n≤34359738368:=by unfold blN;rw [if_neg h0];omega
    have loop:=Ab9 (b:=Af5 (W n)) (fun i=>(i:Int)) (o:=((tzN n:Nat):Int)) (tzN n) (by rw [Ae6];omega) (fun i hi=>by
      unfold Af5
      dsimp only
      rw [wrN (by omega),Hd8 (by omega) hl,Option.bind_some,k3 i hi,Aa6 (by rfl),← Int.natCast_succ,Bd2 (by omega)]) (by
      unfold Af5
      dsimp only
      rw [wrN (by omega),Hd8 (by omega) hl,Option.bind_some,k2,Aa8 (by rfl)])
    rw [show ((0:Nat):Int)=0 from rfl] at loop
    rw [loop];rfl
theorem Hr5 (a b k:Nat):dg (a ||| b) k=dg a k ||| dg b k:=by
  unfold dg
  rw [show (4294967296:Nat)=2^32 from rfl,← Nat.pow_mul,← Nat.shiftRight_eq_div_pow,← Nat.shiftRight_eq_div_pow,← Nat.shiftRight_eq_div_pow,Nat.shiftRight_or_distrib,Nat.or_mod_two_pow]
theorem Hh2 (a b k:Nat):dg (a &&& b) k=dg a k &&& dg b k:=by
  unfold dg
  rw [show (4294967296:Nat)=2^32 from rfl,← Nat.pow_mul,← Nat.shiftRight_eq_div_pow,← Nat.shiftRight_eq_div_pow,← Nat.shiftRight_eq_div_pow,Nat.shiftRight_and_distrib,Nat.and_mod_two_pow]
def pw (a m:Nat):List Int:=dl m m a
theorem Gl3 {a m:Nat} (h:(W a).length≤m) (hm:m≤1099511627776):Bj4 false (W a) (m:Int)=some (pw a m):=by
  unfold Bj4
  rw [Bm3 hm,Option.bind_some,Option.bind_some,cF,Option.bind_some]
  congr 1
  unfold Gr7
  refine Cy3 0 (by simp [pw,Ax5];omega) fun k hk=>?_
  have hkm:k<m:=by simp at hk;omega
  unfold pw
  rw [Eg1 hkm,if_pos hkm]
  rw [List.length_replicate,List.take_of_length_le h]
  rcases Nat.lt_or_ge k (W a).length with g | g
  · rw [List.getD_eq_getElem?_getD,List.getElem?_append_left g,← List.getD_eq_getElem?_getD,Ft9]
  · rw [Bk8 (Nat.lt_of_lt_of_le (Ae9 a) (Nat.pow_le_pow_right (by omega) g)),List.getD_eq_getElem?_getD,List.getElem?_append_right g]
    rw [List.drop_replicate,List.getElem?_replicate]
    split<;>rfl
theorem Hs6 {l:List Int} (h:Wd l) (hl:l.length≤1099511627776) (h0:l = []∨l.getD (l.length-1) 0<2147483648):Cm7 l=some (false,W (wv l)):=by
  unfold Cm7
  have e:((some ((l.length:Nat):Int)).bind fun t2=>cond (decide (t2>0)) ((some ((l.length:Nat):Int)).bind fun t3=>(atI l (IntKind.i64.wrap (t3-1))).bind fun t4=>some ((t4.fdiv (2^(min (31:Int).toNat IntKind.u32.bits)))==1)) (some false))=some false:=by
    rw [Option.bind_some]
    rcases h0 with h0 | h0
    · subst h0;rfl
    · by_cases hz:l.length=0
      · have:l = []:=List.eq_nil_of_length_eq_zero hz
        subst this;rfl
      · have e1:IntKind.i64.wrap (((l.length:Nat):Int)-1)=((l.length-1:Nat):Int):=by rw [wrI (by omega) (by omega)];omega
        have hw:=Cv7 h (l.length-1)
        rw [Aa6 (by rw [decide_eq_true_iff];omega),Option.bind_some,e1,Ab8 0 (by omega),Option.bind_some,show min (31:Int).toNat IntKind.u32.bits=31 by decide,Int.fdiv_eq_ediv_of_nonneg _ (by decide)]
        congr 1
        rw [beq_eq_false_iff_ne]
        omega
  rw [e,Option.bind_some,cF]
  have:=Bn3 h hl (fun t19=>(some (false&&decide (0<t19.length))).bind fun t20=>some (t20,t19))
  rw [this,Option.bind_some,Bool.false_and]
theorem Dg7 {op:Nat→Nat→Nat} {a b m:Nat} {bd:Int×List Int→Option ((Int×List Int)⊕List Int)} (hm:m≤1099511627776)
    (step:∀ (i:Nat) (l:List Int),i<m→l.length=m→l.getD i 0=((dg a i:Nat):Int)→bd ((i:Int),l)=some (.inl (((i+1:Nat):Int),l.set i ((op (dg a i) (dg b i):Nat):Int)))) (stop:∀ l,bd ((m:Int),l)=some (.inr l)) :
    Ag0 bd FU (0,pw a m)=some ((List.range m).map fun k=>((op (dg a k) (dg b k):Nat):Int)):=by
  have:=Ab9 (b:=bd) (fun i=>((i:Int),(List.range m).map fun k=>if k<i then ((op (dg a k) (dg b k):Nat):Int) else ((dg a k:Nat):Int))) (o:=(List.range m).map fun k=>((op (dg a k) (dg b k):Nat):Int)) m (by rw [Ae6];omega) (fun i hi=>by
    rw [step i _ hi (by simp) (by simp [List.getD_eq_getElem?_getD,hi])]
    congr 4
    refine Cy3 0 (by simp) fun k hk=>?_
    have hkm:k<m:=by simpa using hk
    by_cases e:k=i
    · subst e
      rw [List.getD_eq_getElem?_getD,List.getElem?_set_self (by simpa using hkm)]
      simp [List.getD_eq_getElem?_getD,hkm]
    · rw [List.getD_eq_getElem?_getD,List.getElem?_set_ne (Ne.symm e)]
      simp only [List.getD_eq_getElem?_getD,List.getElem?_map,List.getElem?_range hkm,Option.map_some,Option.getD_some]
      by_cases h:k<i
      · rw [if_pos h,if_pos (by omega)]
      · rw [if_neg h,if_neg (by omega)]) (by
    rw [stop]
    congr 2
    refine List.map_congr_left fun k hk=>?_
    rw [if_pos (List.mem_range.1 hk)])
  have e:(List.range m).map (fun k=>if k<0 then ((op (dg a k) (dg b k):Nat):Int) else ((dg a k:Nat):Int))=pw a m:=by
    unfold pw dl
    refine List.map_congr_left fun k hk=>?_
    rw [if_neg (by omega),if_pos (List.mem_range.1 hk)]
  rw [e] at this
  exact this
theorem Gj3 (x y:Nat):(if (y:Int)>(x:Int) then (y:Int) else (x:Int))=((max x y:Nat):Int):=by
  split<;>omega
theorem Ht9 {x y z:Int} (h:Fo0 x y=some z):Ee4 (decide (x<0)) (W x.natAbs) (decide (y<0)) (W y.natAbs)=some (decide (z<0),W z.natAbs):=by
  unfold Fo0 at h
  split at h
  · rename_i hp
    obtain ⟨h1,h⟩:=Aq0 h
    obtain ⟨h2,h⟩:=Aq0 h
    obtain rfl:=Option.some.inj h
    have lx:=Ay8 h1
    have ly:=Ay8 h2
    rw [decide_eq_false (show ¬ x<0 by omega),decide_eq_false (show ¬ y<0 by omega)]
    unfold Ee4
    simp only [Option.bind_some,Gj3]
    generalize hM:max (W x.natAbs).length (W y.natAbs).length=M
    generalize x.natAbs=a at *
    generalize y.natAbs=b at *
    rw [wrU (by omega),Gl3 (by omega) (by omega),Option.bind_some,Gl3 (by omega) (by omega),Option.bind_some]
    have loop:=Dg7 (op:=fun p q=>p ||| q) (a:=a) (b:=b) (m:=M+1) (bd:=Bl6 (((W b).length:Nat):Int) (((W a).length:Nat):Int) (pw b (M+1))) (by omega) (fun i l hi hl hg=>by
      unfold Bl6
      dsimp only
      have h3:=Az1 a i
      have h4:=Az1 b i
      rw [Gj3,hM,wrU (by omega),Aa6 (by rw [decide_eq_true_iff];omega),Ab8 0 (by omega),hg]
      simp only [Option.bind_some,Int.toNat_natCast]
      rw [Ab8 0 (by unfold pw;rw [Ax5];omega),show (pw b (M+1)).getD i 0=((dg b i:Nat):Int) by unfold pw;rw [Eg1 (by omega),if_pos (by omega)]]
      simp only [Option.bind_some]
      rw [Ho8 h3 h4,Fn5,Nat.mod_eq_of_lt (Gw6 h3 h4),wrU (by omega)]) (fun l=>by
      unfold Bl6
      dsimp only
      rw [Gj3,hM,wrU (by omega),Aa8 (by simp)])
    rw [loop,Option.bind_some]
    have ha:a<4294967296^M:=Nat.lt_of_lt_of_le (Ae9 a) (Nat.pow_le_pow_right (by omega) (by omega))
    have hb:b<4294967296^M:=Nat.lt_of_lt_of_le (Ae9 b) (Nat.pow_le_pow_right (by omega) (by omega))
    have hab:a ||| b<4294967296^M:=by
      rw [show (4294967296:Nat)=2^32 from rfl,← Nat.pow_mul] at ha hb ⊢
      exact Nat.or_lt_two_pow ha hb
    have e:(List.range (M+1)).map (fun k=>((dg a k ||| dg b k:Nat):Int))=dl (M+1) (M+1) (a ||| b):=by
      unfold dl
      refine List.map_congr_left fun k hk=>?_
      rw [if_pos (List.mem_range.1 hk),Hr5]
    rw [e,Hs6 (Fr7 _ _ _) (by rw [Ax5];omega) (.inr (by rw [Ax5,Nat.add_sub_cancel,Eg1 (by omega),if_pos (by omega),Bk8 hab];decide)),Option.bind_some]
    dsimp only
    rw [Gb2 (Nat.lt_of_lt_of_le hab (Nat.pow_le_pow_right (by omega) (by omega))),decide_eq_false (by omega),Int.natAbs_natCast]
  · cases h
theorem Ho6 {x y z:Int} (h:Dw0 x y=some z):Cy2 (decide (x<0)) (W x.natAbs) (decide (y<0)) (W y.natAbs)=some (decide (z<0),W z.natAbs):=by
  unfold Dw0 at h
  split at h
  · rename_i hp
    obtain ⟨h1,h⟩:=Aq0 h
    obtain ⟨h2,h⟩:=Aq0 h
    obtain rfl:=Option.some.inj h
    have lx:=Ay8 h1
    have ly:=Ay8 h2
    rw [decide_eq_false (show ¬ x<0 by omega),decide_eq_false (show ¬ y<0 by omega)]
    unfold Cy2
    simp only [Option.bind_some,Gj3]
    generalize hM:max (W x.natAbs).length (W y.natAbs).length=M
    generalize x.natAbs=a at *
    generalize y.natAbs=b at *
    rw [wrU (by omega),Gl3 (by omega) (by omega),Option.bind_some,Gl3 (by omega) (by omega),Option.bind_some]
    have loop:=Dg7 (op:=fun p q=>p &&& q) (a:=a) (b:=b) (m:=M+1) (bd:=Bg4 (((W b).length:Nat):Int) (((W a).length:Nat):Int) (pw b (M+1))) (by omega) (fun i l hi hl hg=>by
      unfold Bg4
      dsimp only
      have h3:=Az1 a i
      have h4:=Az1 b i
      have h5:dg a i &&& dg b i≤dg a i:=Nat.and_le_left
      rw [Gj3,hM,wrU (by omega),Aa6 (by rw [decide_eq_true_iff];omega),Ab8 0 (by omega),hg]
      simp only [Option.bind_some,Int.toNat_natCast]
      rw [Ab8 0 (by unfold pw;rw [Ax5];omega),show (pw b (M+1)).getD i 0=((dg b i:Nat):Int) by unfold pw;rw [Eg1 (by omega),if_pos (by omega)]]
      simp only [Option.bind_some]
      rw [Hp9 h3 h4,Fn5,Nat.mod_eq_of_lt (by omega),wrU (by omega)]) (fun l=>by
      unfold Bg4
      dsimp only
      rw [Gj3,hM,wrU (by omega),Aa8 (by simp)])
    rw [loop,Option.bind_some]
    have ha:a<4294967296^M:=Nat.lt_of_lt_of_le (Ae9 a) (Nat.pow_le_pow_right (by omega) (by omega))
    have hab:a &&& b<4294967296^M:=Nat.lt_of_le_of_lt Nat.and_le_left ha
    have e:(List.range (M+1)).map (fun k=>((dg a k &&& dg b k:Nat):Int))=dl (M+1) (M+1) (a &&& b):=by
      unfold dl
      refine List.map_congr_left fun k hk=>?_
      rw [if_pos (List.mem_range.1 hk),Hh2]
    rw [e,Hs6 (Fr7 _ _ _) (by rw [Ax5];omega) (.inr (by rw [Ax5,Nat.add_sub_cancel,Eg1 (by omega),if_pos (by omega),Bk8 hab];decide)),Option.bind_some]
    dsimp only
    rw [Gb2 (Nat.lt_of_lt_of_le hab (Nat.pow_le_pow_right (by omega) (by omega))),decide_eq_false (by omega),Int.natAbs_natCast]
  · cases h
end Go.Eng
