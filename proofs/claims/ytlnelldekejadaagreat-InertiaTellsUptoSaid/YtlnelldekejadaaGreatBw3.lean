/-
  Words of 32 bits: what the functions of package bignum come to: cutting off, sums, differences, products. No condition.
-/
import Derived.Test.YtlnelldekejadaaGreatTpA
import Derived.Test.YtlnelldekejadaaGreatBgo
set_option linter.all false
set_option maxRecDepth 100000
set_option maxHeartbeats 4000000
open Go.IntKind (i64 u64)
open Option renaming bind_some→AA,getD_some→BX
open List renaming getD_eq_getElem?_getD→AB,eq_nil_of_length_eq_zero→AF,getElem?_set_ne→AP,length_set→AV,map_congr_left→AX,getElem?_set_self→BE,getElem?_eq_none→BQ
open Nat renaming lt_of_lt_of_le→AC,pow_le_pow_right→AD,mod_eq_of_lt→AG,div_div_eq_div_mul→AH,add_mul→AJ,mul_comm→AK,lt_or_ge→AL,shiftRight_eq_div_pow→AN,pow_succ→AQ,two_pow_pos→AR,pow_add→AS,pow_mul→AT,div_add_mod→AU,mul_le_mul_right→AW,lt_of_le_of_lt→AY,div_lt_iff_lt_mul→AZ,mod_lt→BB,div_eq_of_lt→BC,mod_one→BF,mul_assoc→BK,le_mul_of_pos_right→BL,zero_mul→BM,div_le_self→BN,mul_ne_zero→BO,add_mul_div_right→BP,mul_mod_mul_right→BR,add_sub_cancel→BT,pow_zero→BU,or_lt_two_pow→BV
open Int renaming toNat_natCast→AE,fdiv_eq_ediv_of_nonneg→BA,natAbs_natCast→BD,natCast_add→BG,mul_neg_of_neg_of_pos→BI,lt_trichotomy→BJ
open BitVec renaming ofInt→AI,ofInt_natCast→AM,toNat_ofNat→AO,toNat_and→BW,toNat_or→BZ
open Bool renaming false_and→BH,false_eq_true→BS,and_eq_true→BY,eq_iff_iff→CA
namespace Go.Eng
open Go
theorem w32 (n:Int):IntKind.u32.wrap n=n%4294967296:=by simp [IntKind.wrap,IntKind.bits,IntKind.signed]
theorem w64 (n:Int):u64.wrap n=n%18446744073709551616:=by simp [IntKind.wrap,IntKind.bits,IntKind.signed]
theorem Cz9 (n:Nat):IntKind.u32.wrap (n:Int)=((n%4294967296:Nat):Int):=by rw [w32];omega
theorem Ap1 {n:Nat} (h:n<18446744073709551616):u64.wrap (n:Int)=(n:Int):=by rw [w64];omega
theorem fdn (n k:Nat):((n:Nat):Int).fdiv (2^k)=((n/2^k:Nat):Int):=by
 rw [BA _ (by have:=Int.pow_pos (n:=(2:Int)) (m:=k) (by decide);omega)]
 simp
theorem Ez5:min (32:Int).toNat u64.bits=32:=by decide
theorem Hd5:min (63:Int).toNat u64.bits=63:=by decide
theorem Ag0 {τ ω:Type} {b:τ→Option (τ⊕ω)} (I:Nat→τ→Prop) (n:Nat) (Q:ω→Prop) (hn:n<FU) (step:∀ i s,i<n→I i s→∃ s',b s=some (.inl s')∧I (i+1) s') (stop:∀ s,I n s→∃ o,b s=some (.inr o)∧Q o) {s0:τ} (d:I 0 s0):∃ o,Af5 b FU s0=some o∧Q o:=by
 have key:∀ k i m s,i+k=n→k<m→I i s→∃ o,Af5 b m s=some o∧Q o:=by
  intro k
  induction k with
  | zero=>
    intro i m s hi hm hI
    obtain ⟨m,rfl⟩:∃ q,m=q+1:=⟨m-1,by omega⟩
    obtain rfl:i=n:=by omega
    obtain ⟨o,a,c⟩:=stop s hI
    exact ⟨o,by rw [Av3,a],c⟩
  | succ k ih=>
    intro i m s hi hm hI
    obtain ⟨m,rfl⟩:∃ q,m=q+1:=⟨m-1,by omega⟩
    obtain ⟨s',a,c⟩:=step i s (by omega) hI
    obtain ⟨o,e,f⟩:=ih (i+1) m s' (by omega) (by omega) c
    exact ⟨o,by rw [Av3,a];exact e,f⟩
 exact key n 0 FU s0 (by omega) hn d
theorem Go4 {l:List Int} (hl:l.length≤1099511627776):∃ n:Nat,n≤l.length∧Ag5 l=some (n:Int)∧(∀ j,n≤j→j<l.length→l.getD j 0=0)∧(n=0∨l.getD (n-1) 0≠0):=by
 have ex:∃ n:Nat,n≤l.length∧(∀ j,n≤j→j<l.length→l.getD j 0=0)∧(n=0∨l.getD (n-1) 0≠0):=by
  rcases Ar7 (fun i=>l.getD (l.length-1-i) 0 != 0) l.length with h | ⟨i,hi,a,d⟩
  · refine ⟨0,by omega,fun j _ hj=>?_,.inl rfl⟩
    have:=h (l.length-1-j) (by omega)
    rw [show l.length-1-(l.length-1-j)=j by omega] at this
    simpa using this
  · refine ⟨l.length-i,by omega,fun j hj hjl=>?_,.inr ?_⟩
    · have:=d (l.length-1-j) (by omega)
      rw [show l.length-1-(l.length-1-j)=j by omega] at this
      simpa using this
    · rw [show l.length-i-1=l.length-1-i by omega]
      simpa using a
 obtain ⟨n,hn,c,a⟩:=ex
 refine ⟨n,hn,?_,c,a⟩
 unfold Ag5
 have loop:=Ac7 (b:=Az6 l) (fun i=>((l.length-i:Nat):Int)) (o:=(n:Int)) (l.length-n) (by rw [Af4];omega) (fun i hi=>by
  unfold Az6
  dsimp only
  have e:i64.wrap (((l.length-i:Nat):Int)-1)=((l.length-(i+1):Nat):Int):=by rw [wrI (by omega) (by omega)];omega
  rw [Ab0 (by simp;omega),e,Ac1 0 (by omega),AA,c _ (by omega) (by omega)]
  rfl) (by
  unfold Az6
  dsimp only
  rw [show l.length-(l.length-n)=n by omega]
  rcases a with a | a
  · subst a;rfl
  · by_cases hz:n=0
    · subst hz;rfl
    · have e:i64.wrap (((n:Nat):Int)-1)=((n-1:Nat):Int):=by rw [wrI (by omega) (by omega)];omega
      rw [Ab0 (by simp;omega),e,Ac1 0 (by omega),AA,Ab1 (by simpa using a)])
 rw [AA]
 rw [Nat.sub_zero] at loop
 rw [loop,AA,show (0:Int)=((0:Nat):Int) from rfl,Cf6 (by omega) hn]
 rfl
theorem Aw4 {l:List Int} (h:Wd l) (hl:l.length≤1099511627776) {β:Type} (f:List Int→Option β):((Ag5 l).bind fun t=>(Cd8 l 0 t).bind f)=f (W (wv l)):=by
 obtain ⟨n,hn,ht,a,b⟩:=Go4 hl
 rw [ht,AA,show (0:Int)=((0:Nat):Int) from rfl,Cf6 (by omega) hn,AA]
 have:=Ga2 h hn a b
 rw [← this]
 simp
theorem Dl8 {x:Nat} (h:x<18446744073709551616):Au2 (x:Int)=some (W x):=by
 unfold Au2
 rw [AA,Ez5,fdn,Cz9,Cz9]
 have hd:Wd [((x%4294967296:Nat):Int),((x/2^32%4294967296:Nat):Int)]:=Bu9 (by omega) (by omega) (Bu9 (by omega) (by omega) Ds3)
 rw [Aw4 hd (by simp)]
 have:wv [((x%4294967296:Nat):Int),((x/2^32%4294967296:Nat):Int)]=x:=by
  simp only [wv];omega
 rw [this]
theorem Ff8 {l:List Int} (h:l.length≤4294967296):Bc4 l=some l:=by
 unfold Bc4
 rw [Bb3 (by simpa using h)];rfl
def dl (m i V:Nat):List Int:=(List.range m).map fun k=>if k<i then ((dg V k:Nat):Int) else 0
theorem Aq8 (m i V:Nat):(dl m i V).length=m:=by simp [dl]
theorem Dm6 {m i V k:Nat} (h:k<m):(dl m i V).getD k 0=if k<i then ((dg V k:Nat):Int) else 0:=by
 unfold dl;simp [AB,h]
theorem Eg1 (m V:Nat):dl m 0 V=List.replicate m 0:=by
 unfold dl
 rw [← Eh0]
 exact AX fun k _=>by simp
theorem Ep8 {m i V:Nat}:(dl m i V).set i ((dg V i:Nat):Int)=dl m (i+1) V:=by
 refine Cm6 0 (by simp [dl]) fun k hk=>?_
 have hkm:k<m:=by simpa [dl] using hk
 by_cases e:k=i
 · subst e
   rw [AB,BE (by rw [Aq8];exact hkm),Dm6 hkm,if_pos (by omega)];rfl
 · rw [AB,AP (Ne.symm e),← AB,Dm6 hkm,Dm6 hkm]
   by_cases h:k<i
   · rw [if_pos h,if_pos (by omega)]
   · rw [if_neg h,if_neg (by omega)]
theorem Eu3 (m i V:Nat):Wd (dl m i V):=by
 intro x hx
 obtain ⟨k,_,rfl⟩:=List.mem_map.1 hx
 have:=Am1 V k
 split<;>omega
theorem Fh3 {m V:Nat} (h:V<4294967296^m):wv (dl m m V)=V:=Gu0 (Eu3 m m V) (by rw [Aq8];exact h) fun k hk=>by
 rw [Aq8] at hk
 rw [Dm6 hk,if_pos hk]
theorem An1 {l:List Int} (h:Wd l) {k:Nat} (hk:k<l.length):atI l (k:Int)=some ((dg (wv l) k:Nat):Int):=by
 rw [Ac1 0 hk,Gi9 h]
def cyA (X Y i:Nat):Nat:=(X%4294967296^i+Y%4294967296^i)/4294967296^i
theorem Fl5 (X Y i:Nat):cyA X Y i≤1:=by
 unfold cyA
 have hp:=Ac5 i
 have a:=BB X hp
 have b:=BB Y hp
 have:(X%4294967296^i+Y%4294967296^i)/4294967296^i<2:=(AZ hp).2 (by omega)
 omega
theorem Dl9 (X Y i:Nat):(cyA X Y i+dg X i+dg Y i)/4294967296=cyA X Y (i+1):=by
 unfold cyA
 rw [Ae1,Ae1,AQ,← AH]
 congr 1
 rw [show X%4294967296^i+dg X i*4294967296^i+(Y%4294967296^i+dg Y i*4294967296^i)=(X%4294967296^i+Y%4294967296^i)+(dg X i+dg Y i)*4294967296^i by rw [AJ];omega,BP _ _ (Ac5 i)]
 omega
theorem Dv7 (X Y i:Nat):(X+Y)/4294967296^i=X/4294967296^i+Y/4294967296^i+cyA X Y i:=by
 unfold cyA
 have hp:=Ac5 i
 have a:=AU X (4294967296^i)
 have b:=AU Y (4294967296^i)
 conv=>lhs;rw [← a,← b]
 rw [show 4294967296^i*(X/4294967296^i)+X%4294967296^i+(4294967296^i*(Y/4294967296^i)+Y%4294967296^i)=(X%4294967296^i+Y%4294967296^i)+(X/4294967296^i+Y/4294967296^i)*4294967296^i by rw [AJ,AK (4294967296^i),AK (4294967296^i)];omega,BP _ _ hp]
 omega
theorem Fk6 (X Y i:Nat):dg (X+Y) i=(cyA X Y i+dg X i+dg Y i)%4294967296:=by
 unfold dg
 rw [Dv7];omega
theorem Fq7 {x y:List Int} (hx:Wd x) (hy:Wd y) (hl:y.length≤x.length) (hb:x.length≤4294967296) :
 Af5 (At2 x y) FU (0,0,List.replicate (x.length+1) 0)=some ((((cyA (wv x) (wv y) x.length:Nat):Int)),dl (x.length+1) x.length (wv x+wv y)):=by
 have:=Ac7 (b:=At2 x y) (fun i=>(((cyA (wv x) (wv y) i:Nat):Int),((i:Nat):Int),dl (x.length+1) i (wv x+wv y))) (o:=(((cyA (wv x) (wv y) x.length:Nat):Int),dl (x.length+1) x.length (wv x+wv y))) x.length (by rw [Af4];omega) (fun i hi=>by
  unfold At2
  simp only [AA]
  have c:=Am1 (wv x) i
  have d:=Am1 (wv y) i
  have f:=Fl5 (wv x) (wv y) i
  have e:(cond (decide (((i:Nat):Int)<((y.length:Nat):Int))) ((atI y (i:Int)).bind fun a=>some (u64.wrap (u64.wrap (((cyA (wv x) (wv y) i:Nat):Int)+u64.wrap ((dg (wv x) i:Nat):Int))+u64.wrap a))) (some (u64.wrap (((cyA (wv x) (wv y) i:Nat):Int)+u64.wrap ((dg (wv x) i:Nat):Int)))))=some (((cyA (wv x) (wv y) i+dg (wv x) i+dg (wv y) i:Nat):Int)):=by
   rw [Ap1 (n:=dg (wv x) i) (by omega),← BG,Ap1 (n:=cyA (wv x) (wv y) i+dg (wv x) i) (by omega)]
   by_cases hiy:i<y.length
   · rw [Ab0 (by simpa using hiy),An1 hy hiy,AA,Ap1 (n:=dg (wv y) i) (by omega),← BG,Ap1 (by omega)]
   · rw [Ab1 (by simpa using hiy),show dg (wv y) i=0 from Bh8 (AC (Cm0 hy) (AD (by omega) (by omega)))]
     simp
  rw [Ab0 (by simp;omega),An1 hx hi,AA,e,AA,Ac1 0 (by rw [Aq8];omega)]
  simp only [AA,AE]
  rw [Cz9,← Fk6,Ep8,Ez5,fdn,show (2:Nat)^32=4294967296 from rfl,Dl9,wrU (by omega)]) (by
  unfold At2
  simp only [AA]
  rw [Ab1 (by simp)])
 rw [Eg1,show ((cyA (wv x) (wv y) 0:Nat):Int)=0 by unfold cyA;simp [BF]] at this
 exact this
theorem Em6 {x y:List Int} (hx:Wd x) (hy:Wd y) (hl:y.length≤x.length) (hb:x.length≤4294967296) :
 ((Af5 (At2 x y) FU (0,0,List.replicate (x.length+1) 0)).bind fun o=>match o with
   | (d,a)=>(some ((x.length:Nat):Int)).bind fun b=>(atI a b).bind fun _=>(some (a.set (b).toNat (IntKind.u32.wrap d))).bind fun c=>(Ag5 c).bind fun f=>(Cd8 c 0 f).bind fun g=>some g)=some (W (wv x+wv y)):=by
 rw [Fq7 hx hy hl hb,AA]
 dsimp only
 have lx:=Cm0 hx
 have ly:=AC (Cm0 hy) (AD (n:=4294967296) (by omega) hl)
 have e:cyA (wv x) (wv y) x.length%4294967296=dg (wv x+wv y) x.length:=by
  rw [Fk6,Bh8 lx,Bh8 ly];simp
 rw [AA,Ac1 0 (by rw [Aq8];omega)]
 simp only [AA,AE]
 rw [Cz9,e,Ep8,Aw4 (Eu3 _ _ _) (by rw [Aq8];omega),Fh3]
 rw [AQ];omega
theorem Gm6 {a b:Nat} (ha:(W a).length≤4294967296) (hb:(W b).length≤4294967296):Br2 (W a) (W b)=some (W (a+b)):=by
 unfold Br2
 rw [AA,AA]
 rcases AL (W a).length (W b).length with h | h
 · rw [Ab0 (by simpa using h),AA]
   dsimp only
   rw [AA,wrU (by omega),Bb0 (by omega),AA,Em6 (Bk2 b) (Bk2 a) (by omega) hb,Bf0,Bf0,Nat.add_comm]
 · rw [Ab1 (by simpa using h),AA]
   dsimp only
   rw [AA,wrU (by omega),Bb0 (by omega),AA,Em6 (Bk2 a) (Bk2 b) (by omega) ha,Bf0,Bf0]
def boA (X Y i:Nat):Nat:=if X%4294967296^i<Y%4294967296^i then 1 else 0
theorem Gb5 (X Y i:Nat):boA X Y i≤1:=by unfold boA;split<;>omega
theorem Em8 (X Y i:Nat):boA X Y (i+1)=if dg X i<dg Y i+boA X Y i then 1 else 0:=by
 unfold boA
 rw [Ae1,Ae1]
 have hp:=Ac5 i
 have a:=BB X hp
 have b:=BB Y hp
 generalize X%4294967296^i=p at *
 generalize Y%4294967296^i=q at *
 generalize dg X i=x
 generalize dg Y i=y
 generalize 4294967296^i=P at *
 rcases Nat.lt_trichotomy x y with h | h | h
 · have:(x+1)*P≤y*P:=AW _ h
   rw [AJ] at this
   rw [if_pos (by omega)]
   split<;>rw [if_pos (by omega)]
 · subst h
   by_cases hpq:p<q
   · rw [if_pos (by omega),if_pos hpq,if_pos (by omega)]
   · rw [if_neg (by omega),if_neg hpq,if_neg (by omega)]
 · have:(y+1)*P≤x*P:=AW _ h
   rw [AJ] at this
   rw [if_neg (by omega)]
   split<;>rw [if_neg (by omega)]
theorem Fh6 {X Y:Nat} (h:Y≤X) (i:Nat):(X-Y)/4294967296^i+Y/4294967296^i+boA X Y i=X/4294967296^i:=by
 have hp:=Ac5 i
 have a:=AU X (4294967296^i)
 have b:=AU Y (4294967296^i)
 have c:=BB X hp
 have d:=BB Y hp
 unfold boA
 generalize X%4294967296^i=p at *
 generalize Y%4294967296^i=q at *
 generalize hx:X/4294967296^i=x at *
 generalize hy:Y/4294967296^i=y at *
 generalize 4294967296^i=P at *
 have hyx:y≤x:=by rw [← hx,← hy];exact Nat.div_le_div_right h
 split
 · rename_i hpq
   have hlt:y<x:=by
    rcases AL y x with k | k
    · exact k
    · have:x=y:=by omega
      subst this;omega
   have e:X-Y=(x-y-1)*P+(P+p-q):=by
    have:x*P=(x-y-1)*P+y*P+P:=by
     rw [← AJ,← Nat.succ_mul];congr 1;omega
    rw [AK] at a b
    omega
   have:(X-Y)/P=x-y-1:=by
    rw [e,AK,Nat.mul_add_div hp,BC (by omega)];omega
   omega
 · rename_i hpq
   have e:X-Y=(x-y)*P+(p-q):=by
    have:x*P=(x-y)*P+y*P:=by rw [← AJ];congr 1;omega
    rw [AK] at a b
    omega
   have:(X-Y)/P=x-y:=by
    rw [e,AK,Nat.mul_add_div hp,BC (by omega)];omega
   omega
theorem Fy0 {X Y:Nat} (h:Y≤X) (i:Nat):((dg (X-Y) i:Nat):Int)=(((dg X i:Nat):Int)-boA X Y i-dg Y i)%4294967296:=by
 have:=Fh6 h i
 unfold dg
 omega
theorem Fs3 {x y:List Int} (hx:Wd x) (hy:Wd y) (hl:wv y≤wv x) (hb:x.length≤4294967296) :
 Af5 (Ax7 x y) FU (0,0,List.replicate x.length 0)=some (dl x.length x.length (wv x-wv y)):=by
 have:=Ac7 (b:=Ax7 x y) (fun i=>(((boA (wv x) (wv y) i:Nat):Int),((i:Nat):Int),dl x.length i (wv x-wv y))) (o:=dl x.length x.length (wv x-wv y)) x.length (by rw [Af4];omega) (fun i hi=>by
  unfold Ax7
  simp only [AA]
  have f:=Am1 (wv x) i
  have g:=Am1 (wv y) i
  have h:=Gb5 (wv x) (wv y) i
  have e:(cond (decide (((i:Nat):Int)<((y.length:Nat):Int))) ((atI y (i:Int)).bind fun a=>some (u64.wrap (u64.wrap (u64.wrap ((dg (wv x) i:Nat):Int)-((boA (wv x) (wv y) i:Nat):Int))-u64.wrap a))) (some (u64.wrap (u64.wrap ((dg (wv x) i:Nat):Int)-((boA (wv x) (wv y) i:Nat):Int)))))=some ((((dg (wv x) i:Nat):Int)-boA (wv x) (wv y) i-dg (wv y) i)%18446744073709551616):=by
   rw [Ap1 (n:=dg (wv x) i) (by omega)]
   by_cases hiy:i<y.length
   · rw [Ab0 (by simpa using hiy),An1 hy hiy,AA,Ap1 (n:=dg (wv y) i) (by omega),w64,w64]
     congr 1;omega
   · rw [Ab1 (by simpa using hiy),show dg (wv y) i=0 from Bh8 (AC (Cm0 hy) (AD (by omega) (by omega))),w64]
     congr 1;omega
  have c:((((dg (wv x) i:Nat):Int)-boA (wv x) (wv y) i-dg (wv y) i)%18446744073709551616).fdiv (2^63)=((boA (wv x) (wv y) (i+1):Nat):Int):=by
   rw [Em8,BA _ (by decide)]
   split<;>omega
  rw [Ab0 (by simp;omega),An1 hx hi,AA,e,AA,Ac1 0 (by rw [Aq8];omega)]
  simp only [AA,AE]
  have d:((((dg (wv x) i:Nat):Int)-boA (wv x) (wv y) i-dg (wv y) i)%18446744073709551616)%4294967296=((dg (wv x-wv y) i:Nat):Int):=by
   rw [Fy0 hl];omega
  rw [w32,d,Ep8,Hd5,c,wrU (by omega)]) (by
  unfold Ax7
  simp only [AA]
  rw [Ab1 (by simp)])
 rw [Eg1,show ((boA (wv x) (wv y) 0:Nat):Int)=0 by unfold boA;simp [BF]] at this
 exact this
theorem Gk8 {a b:Nat} (h:b≤a) (ha:(W a).length≤4294967296):Bj9 (W a) (W b)=some (W (a-b)):=by
 unfold Bj9
 have loop:=Fs3 (Bk2 a) (Bk2 b) (by rw [Bf0,Bf0];exact h) ha
 rw [Bf0,Bf0] at loop
 rw [AA,Bb0 (by omega),AA,loop,AA,Aw4 (Eu3 _ _ _) (by rw [Aq8];omega),Fh3]
 exact AY (Nat.sub_le a b) (Ad2 a)
theorem Gb9 {x y r:List Int} {i V:Nat} (hx:Wd x) (hy:Wd y) (hi:i<x.length) (hr:Wd r) (hl:r.length=x.length+y.length) (hb:x.length+y.length≤8589934592) (hV:wv r=V) (q:∀ k,i+y.length≤k→r.getD k 0=0) :
 ∃ o,((Af5 (At1 y x (i:Int)) FU (0,0,r)).bind fun o=>match o with
   | (t,m)=>(some ((y.length:Nat):Int)).bind fun p=>(atI m (i64.wrap ((i:Int)+p))).bind fun _=>(some (m.set ((i64.wrap ((i:Int)+p))).toNat (IntKind.u32.wrap t))).bind fun u=>some (Sum.inl (α:=Int×List Int) (β:=List Int) ((i64.wrap ((i:Int)+1)),u)))=some (.inl (((i+1:Nat):Int),o)) ∧
   Wd o∧o.length=x.length+y.length∧wv o=V+dg (wv x) i*wv y*4294967296^i∧∀ k,i+1+y.length≤k→o.getD k 0=0:=by
 have hxi:=Am1 (wv x) i
 obtain ⟨o,ho,c,a,rfl,hc,d,f,h,e⟩:=Ag0 (b:=At1 y x (i:Int)) (fun j s=>∃ (c:Nat) (a:List Int),s=((c:Int),(j:Int),a)∧c<4294967296∧Wd a∧a.length=x.length+y.length∧wv a+c*4294967296^(i+j)=V+dg (wv x) i*(wv y%4294967296^j)*4294967296^i∧∀ k,i+y.length≤k→a.getD k 0=0) y.length (fun o=>∃ (c:Nat) (a:List Int),o=((c:Int),a)∧c<4294967296∧Wd a∧a.length=x.length+y.length∧wv a+c*4294967296^(i+y.length)=V+dg (wv x) i*wv y*4294967296^i∧∀ k,i+y.length≤k→a.getD k 0=0) (by rw [Af4];omega) (fun j s hj=>by
  rintro ⟨c,a,rfl,hc,d,f,h,e⟩
  unfold At1
  simp only [AA]
  have hij:i+j<a.length:=by omega
  have hyj:=Am1 (wv y) j
  have hrij:=Cg6 d (i+j)
  generalize hg:(a.getD (i+j) 0).toNat=g
  have hg':a.getD (i+j) 0=(g:Int):=by omega
  have z:g<4294967296:=by omega
  have hprod:dg (wv x) i*dg (wv y) j≤4294967295*4294967295:=Nat.mul_le_mul (by omega) (by omega)
  rw [Ab0 (by simp;omega),An1 hx hi,AA,An1 hy hj,AA,Bs0 (by omega),Ac1 0 hij]
  simp only [AA,AE]
  rw [hg',Ap1 (n:=dg (wv x) i) (by omega),Ap1 (n:=dg (wv y) j) (by omega),← Int.natCast_mul,Ap1 (n:=dg (wv x) i*dg (wv y) j) (by omega),Ap1 (n:=g) (by omega),← BG,Ap1 (n:=dg (wv x) i*dg (wv y) j+g) (by omega),← BG,Ap1 (n:=c+(dg (wv x) i*dg (wv y) j+g)) (by omega),Cz9,Ez5,fdn,wrU (by omega)]
  refine ⟨_,rfl,(c+(dg (wv x) i*dg (wv y) j+g))/2^32,_,rfl,by omega,Bi5 d (by omega) (by omega),by rw [AV];exact f,?_,fun k hk=>?_⟩
  · have hs:=Ct1 (l:=a) (((c+(dg (wv x) i*dg (wv y) j+g))%4294967296:Nat):Int) hij
    rw [hg,AE] at hs
    rw [show (2:Nat)^32=4294967296 from rfl,show i+(j+1)=i+j+1 by omega,AQ,Ae1]
    have hdm:=AU (c+(dg (wv x) i*dg (wv y) j+g)) 4294967296
    generalize hS:c+(dg (wv x) i*dg (wv y) j+g)=S at *
    have e1:wv (a.set (i+j) ((S%4294967296:Nat):Int))+g*4294967296^(i+j)=wv a+S%4294967296*4294967296^(i+j):=hs
    have e2:S/4294967296*(4294967296^(i+j)*4294967296)+S%4294967296*4294967296^(i+j)=S*4294967296^(i+j):=by
     conv=>rhs;rw [← hdm]
     rw [AJ]
     congr 1
     ac_rfl
    have e3:S*4294967296^(i+j)=c*4294967296^(i+j)+dg (wv x) i*dg (wv y) j*4294967296^(i+j)+g*4294967296^(i+j):=by
     rw [← hS,AJ,AJ];omega
    have v:dg (wv x) i*(wv y%4294967296^j+dg (wv y) j*4294967296^j)*4294967296^i=dg (wv x) i*(wv y%4294967296^j)*4294967296^i+dg (wv x) i*dg (wv y) j*4294967296^(i+j):=by
     rw [Nat.mul_add,AJ,AS]
     congr 1
     ac_rfl
    rw [v]
    omega
  · rw [AB,AP (by omega),← AB]
    exact e k hk) (fun s=>by
  rintro ⟨c,a,rfl,hc,d,f,h,e⟩
  unfold At1
  simp only [AA]
  rw [Ab1 (by simp)]
  refine ⟨_,rfl,c,a,rfl,hc,d,f,?_,e⟩
  rw [h,Ay7 (Cm0 hy)]) ⟨0,r,rfl,by omega,hr,hl,by rw [hV,BU,BF];simp,q⟩
 have ho:Af5 (At1 y x (i:Int)) FU (0,0,r)=some ((c:Int),a):=ho
 rw [ho,AA]
 dsimp only
 have hin:i+y.length<a.length:=by omega
 rw [AA,Bs0 (by omega),Ac1 0 hin]
 simp only [AA,AE]
 rw [Cz9,AG hc,wrU (by omega)]
 refine ⟨_,rfl,Bi5 d (by omega) (by omega),by rw [AV];exact f,?_,fun k hk=>?_⟩
 · have hs:=Ct1 (l:=a) ((c:Nat):Int) hin
   rw [e _ (Nat.le_refl _),AE] at hs
   simp only [Int.toNat_zero,BM,Nat.add_zero] at hs
   rw [hs,h]
 · rw [AB,AP (by omega),← AB]
   exact e k (by omega)
theorem Hb3 {a b:Nat} (h:(W a).length+(W b).length≤8589934592):By2 (W a) (W b)=some (W (a*b)):=by
 unfold By2
 have emp:∀ n:Nat,((((W n).length:Nat):Int)==0)=decide (n=0):=fun n=>by
  by_cases hn:n=0
  · subst hn;rw [Ap5];rfl
  · have:(W n).length≠0:=fun e=>hn (Cs5.1 (AF e))
    rw [decide_eq_false hn,beq_eq_false_iff_ne];omega
 simp only [AA,emp]
 by_cases ha:a=0
 · subst ha
   rw [decide_eq_true rfl]
   simp [Ap5]
 · rw [decide_eq_false ha]
   by_cases hb:b=0
   · subst hb
     simp [Ap5]
   · rw [decide_eq_false hb]
     simp only [Bool.not_false,cT,AA,cF]
     rw [Bs0 (by omega),Bb0 (by omega),AA]
     obtain ⟨o,ho,hw,hl,hv⟩:=Ag0 (b:=Bd5 (W a) (W b)) (fun i s=>∃ r,s=((i:Int),r)∧Wd r∧r.length=(W a).length+(W b).length∧wv r=(a%4294967296^i)*b∧∀ k,i+(W b).length≤k→r.getD k 0=0) (W a).length (fun o=>Wd o∧o.length=(W a).length+(W b).length∧wv o=a*b) (by rw [Af4];omega) (fun i s hi=>by
      rintro ⟨r,rfl,hr,hl,hv,hz⟩
      obtain ⟨o,c,f,g,d,j⟩:=Gb9 (Bk2 a) (Bk2 b) hi hr hl (by omega) hv hz
      rw [Bf0,Bf0] at d
      refine ⟨(((i+1:Nat):Int),o),?_,o,rfl,f,g,?_,j⟩
      · unfold Bd5
        simp only [AA]
        rw [Ab0 (by simp;omega)]
        simp only [AA] at c
        exact c
      · rw [d,Ae1,AJ]
        congr 1
        ac_rfl) (fun s=>by
      rintro ⟨r,rfl,hr,hl,hv,hz⟩
      unfold Bd5
      simp only [AA]
      rw [Ab1 (by simp)]
      exact ⟨r,rfl,hr,hl,by rw [hv,Ay7 (Ad2 a)]⟩) (s0:=(0,List.replicate ((W a).length+(W b).length) 0)) ⟨_,rfl,Cs9 _,by simp,by rw [Cg4,BU,BF,BM],fun k _=>by
       rw [AB]
       rcases AL k ((W a).length+(W b).length) with hk | hk
       · simp [hk]
       · rw [BQ (by simpa using hk)];rfl⟩
     rw [ho,AA,Aw4 hw (by omega),hv]
end Go.Eng
/-
  Words of 32 bits: shifts, lengths, comparisons, bits. No condition.
-/
namespace Go.Eng
open Go
theorem Ha7 {a b:Nat} (ha:a<4294967296) (hb:b<4294967296):((AI IntKind.u32.bits (a:Int) ||| AI IntKind.u32.bits (b:Int)).toNat)=a ||| b:=by
 show (AI 32 (a:Int) ||| AI 32 (b:Int)).toNat=_
 rw [BZ,AM,AM,AO,AO,AG (by omega),AG (by omega)]
theorem Gx4 {a b:Nat} (ha:a<4294967296) (hb:b<4294967296):((AI IntKind.u32.bits (a:Int) &&& AI IntKind.u32.bits (b:Int)).toNat)=a &&& b:=by
 show (AI 32 (a:Int) &&& AI 32 (b:Int)).toNat=_
 rw [BW,AM,AM,AO,AO,AG (by omega),AG (by omega)]
theorem Gt1 {a b:Nat} (ha:a<18446744073709551616) (hb:b<18446744073709551616):((AI u64.bits (a:Int) ||| AI u64.bits (b:Int)).toNat)=a ||| b:=by
 show (AI 64 (a:Int) ||| AI 64 (b:Int)).toNat=_
 rw [BZ,AM,AM,AO,AO,AG (by omega),AG (by omega)]
theorem Gz0 {a b:Nat} (ha:a<18446744073709551616) (hb:b<18446744073709551616):((AI u64.bits (a:Int) &&& AI u64.bits (b:Int)).toNat)=a &&& b:=by
 show (AI 64 (a:Int) &&& AI 64 (b:Int)).toNat=_
 rw [BW,AM,AM,AO,AO,AG (by omega),AG (by omega)]
theorem Gg9 {a b:Nat} (ha:a<4294967296) (hb:b<4294967296):a ||| b<4294967296:=BV (n:=32) ha hb
theorem Br5 {a b s:Nat} (h:a<2^s):a ||| b*2^s=a+b*2^s:=by
 rw [Nat.or_comm,← Nat.shiftLeft_eq,← Nat.shiftLeft_add_eq_or_of_lt h,Nat.add_comm]
theorem Gm0 {n:Nat} (h:n<34359738368):i64.wrap (u64.wrap ((n:Int).tdiv 32))=((n/32:Nat):Int)∧(n:Int).tmod 32=((n%32:Nat):Int):=by
 have e:(n:Int).tdiv 32=((n/32:Nat):Int):=rfl
 refine ⟨?_,rfl⟩
 rw [e,Ap1 (by omega),wrN (by omega)]
theorem Fv0 (n:Nat):nn (n:Int)=some ():=by unfold nn;rw [if_pos (by omega)]
theorem Fb3 {a n:Nat} (hn:n<34359738368) (ha:(W a).length≤4294967296):Bc7 (W a) (n:Int)=some (W (a*2^n)):=by
 unfold Bc7
 obtain ⟨h,p⟩:=Gm0 hn
 simp only [AA,h]
 by_cases j:a=0
 · subst j
   rw [Ap5,BM,Ap5];rfl
 have hne:(W a).length≠0:=fun e=>j (Cs5.1 (AF e))
 rw [Ab1 (by simpa using fun e=>hne (by simp [e])),Bs0 (by omega),wrU (by omega),Bb0 (by omega),AA]
 generalize hw:n/32=w at *
 generalize hs:n%32=s at *
 have z:s<32:=by omega
 have hpow:(2:Nat)^n=2^s*4294967296^w:=by
  rw [show (4294967296:Nat)=2^32 from rfl,← AT,← AS];congr 1;omega
 have c:(2:Nat)^s*2^(32-s)=4294967296:=by rw [← AS,show s+(32-s)=32 by omega]
 have ps:0<2^s:=AR s
 have m:0<2^(32-s):=AR (32-s)
 have ple:(2:Nat)^s≤4294967296:=by
  rw [← c];exact BL _ m
 obtain ⟨o,ho,hwd,hl,hv⟩:=Ag0 (b:=Az7 (W a) (n:Int)) (fun i t=>∃ r,t=((i:Int),r)∧Wd r∧r.length=(W a).length+w+1∧wv r=(a%4294967296^i)*2^s*4294967296^w∧r.getD (i+w) 0<(2^s:Nat)∧∀ k,i+w<k→r.getD k 0=0) (W a).length (fun o=>Wd o∧o.length=(W a).length+w+1∧wv o=a*2^n) (by rw [Af4];omega) (fun i t hi=>by
  rintro ⟨r,rfl,hr,hl,hv,hb,hz⟩
  unfold Az7
  simp only [AA,h,p]
  have hd:=Am1 a i
  generalize hx:dg a i=x at *
  have hiw:i+w<r.length:=by omega
  have d:i+w+1<r.length:=by omega
  have aa:=Cg6 hr (i+w)
  generalize hg:(r.getD (i+w) 0).toNat=g
  have hg':r.getD (i+w) 0=(g:Int):=by omega
  have q:g<2^s:=by omega
  have hxs:x*2^s<18446744073709551616:=by
   have:x*2^s≤4294967295*4294967296:=Nat.mul_le_mul (by omega) ple
   omega
  have hlo:g+x*2^s%4294967296<4294967296:=by
   have e:x*2^s%4294967296=(x%2^(32-s))*2^s:=by
    rw [← c,AK (2^s),BR]
   have:x%2^(32-s)<2^(32-s):=BB _ m
   have:(x%2^(32-s)+1)*2^s≤2^(32-s)*2^s:=AW _ this
   rw [AJ,AK (2^(32-s)),c] at this
   omega
  have hor:g ||| x*2^s%4294967296=g+x*2^s%4294967296:=by
   have e:x*2^s%4294967296=(x%2^(32-s))*2^s:=by
    rw [← c,AK (2^s),BR]
   rw [e,Br5 q]
  rw [Ab0 (by simp;omega),An1 (Bk2 a) hi,AA,Bf0,hx,Fv0,AA,Bs0 (by omega),Ac1 0 hiw]
  simp only [AA,AE]
  rw [hg',Ap1 (n:=x) (by omega)]
  have eb:min (s:Nat) u64.bits=s:=by
   have:u64.bits=64:=rfl
   omega
  rw [eb]
  have ex:((x:Int)*2^s)=((x*2^s:Nat):Int):=by simp
  rw [ex,Ap1 hxs,Cz9 (x*2^s),Ez5,fdn,Ha7 (by omega) (by omega),hor,Cz9 (g+x*2^s%4294967296),AG hlo,wrU (by omega),Ac1 0 (by rw [AV];exact d)]
  have hset1:(r.set (i+w) ((g+x*2^s%4294967296:Nat):Int)).getD (i+w+1) 0=0:=by
   rw [AB,AP (by omega),← AB]
   exact hz _ (by omega)
  have hhi:x*2^s/2^32<2^s:=by
   rw [show (2:Nat)^32=4294967296 from rfl]
   refine (AZ (by omega)).2 ?_
   rw [AK]
   exact Nat.mul_lt_mul_of_pos_left hd ps
  rw [hset1]
  simp only [AA,AE]
  rw [show (0:Int)=((0:Nat):Int) from rfl,Cz9 (x*2^s/2^32),AG (AC hhi ple),Ha7 (by omega) (AC hhi ple),Nat.zero_or,Cz9 (x*2^s/2^32),AG (AC hhi ple),wrU (by omega)]
  have u:Wd (r.set (i+w) ((g+x*2^s%4294967296:Nat):Int)):=Bi5 hr (by omega) (by omega)
  refine ⟨_,rfl,_,rfl,Bi5 u (by omega) (by have:=AC hhi ple;omega),by rw [AV,AV];exact hl,?_,?_,fun k hk=>?_⟩
  · have v:=Ct1 (l:=r) ((g+x*2^s%4294967296:Nat):Int) hiw
    have f:=Ct1 (l:=r.set (i+w) ((g+x*2^s%4294967296:Nat):Int)) ((x*2^s/2^32:Nat):Int) (k:=i+w+1) (by rw [AV];exact d)
    rw [hg,AE,AJ] at v
    rw [hset1,AE,show (2:Nat)^32=4294967296 from rfl,AQ] at f
    simp only [Int.toNat_zero,BM,Nat.add_zero] at f
    rw [show (2:Nat)^32=4294967296 from rfl,f,Ae1,hx]
    have hdm:=AU (x*2^s) 4294967296
    generalize hS:x*2^s=S at *
    have e3:S/4294967296*(4294967296^(i+w)*4294967296)+S%4294967296*4294967296^(i+w)=S*4294967296^(i+w):=by
     conv=>rhs;rw [← hdm]
     rw [AJ]
     congr 1
     ac_rfl
    have y:(a%4294967296^i+x*4294967296^i)*2^s*4294967296^w=a%4294967296^i*2^s*4294967296^w+S*4294967296^(i+w):=by
     rw [AJ,AJ,← hS,AS]
     congr 1
     ac_rfl
    rw [y]
    omega
  · rw [show i+1+w=i+w+1 by omega,AB,BE (by rw [AV];exact d)]
    simp only [BX]
    omega
  · rw [AB,AP (by omega),AP (by omega),← AB]
    exact hz k (by omega)) (fun t=>by
  rintro ⟨r,rfl,hr,hl,hv,hb,hz⟩
  unfold Az7
  simp only [AA]
  rw [Ab1 (by simp)]
  exact ⟨r,rfl,hr,hl,by rw [hv,Ay7 (Ad2 a),hpow,BK]⟩) (s0:=(0,List.replicate ((W a).length+w+1) 0)) ⟨_,rfl,Cs9 _,by simp,by rw [Cg4,BU,BF];simp,by
   rw [AB]
   simp only [Nat.zero_add]
   rcases AL w ((W a).length+w+1) with hk | hk
   · have e:((List.replicate ((W a).length+w+1) (0:Int))[w]?).getD 0=0:=by simp [hk]
     rw [e]
     exact Int.ofNat_lt.2 ps
   · omega,fun k _=>by
   rw [AB]
   rcases AL k ((W a).length+w+1) with hk | hk
   · simp [hk]
   · rw [BQ (by simpa using hk)];rfl⟩
 rw [ho,AA,Aw4 hwd (by omega),hv]
theorem Fp0 (a n i:Nat):dg (a/2^n) i=(dg a (i+n/32)+dg a (i+n/32+1)*4294967296)/2^(n%32)%4294967296:=by
 generalize hs:n%32=s
 generalize hw:n/32=w
 have hn:n=32*w+s:=by omega
 have b:a/2^n/4294967296^i=a/4294967296^(i+w)/2^s:=by
  rw [AH,AH,show (4294967296:Nat)=2^32 from rfl,← AT,← AT,← AS,← AS]
  congr 2;omega
 have c:dg a (i+w+1)=a/4294967296^(i+w)/4294967296%4294967296:=by
  unfold dg;rw [AQ,AH]
 unfold dg at *
 rw [b,c]
 generalize a/4294967296^(i+w)=Z
 have e:s<32:=by omega
 have d:(2:Nat)^s*2^(32-s)=4294967296:=by rw [← AS,show s+(32-s)=32 by omega]
 have hZ:Z=(Z%4294967296+Z/4294967296%4294967296*4294967296)+2^s*(2^(32-s)*4294967296*(Z/18446744073709551616)):=by
  have:2^s*(2^(32-s)*4294967296*(Z/18446744073709551616))=18446744073709551616*(Z/18446744073709551616):=by
   rw [← BK,← BK,d]
  rw [this];omega
 generalize hY:Z%4294967296+Z/4294967296%4294967296*4294967296=Y at *
 conv=>lhs;rw [hZ]
 rw [Nat.add_mul_div_left _ _ (AR s)]
 have:2^(32-s)*4294967296*(Z/18446744073709551616)=4294967296*(2^(32-s)*(Z/18446744073709551616)):=by ac_rfl
 rw [this,Nat.add_mul_mod_self_left]
theorem Do9 {a n:Nat} (hn:n<18446744073709551616) (ha:(W a).length≤4294967296):Ar3 (W a) (n:Int)=some (W (a/2^n)):=by
 unfold Ar3
 have d:(n:Int).tdiv 32=((n/32:Nat):Int):=rfl
 have c:i64.wrap (u64.wrap ((n:Int).tdiv 32))=((n/32:Nat):Int):=by rw [d,Ap1 (by omega),wrN (by omega)]
 have e:(n:Int).tmod 32=((n%32:Nat):Int):=rfl
 simp only [AA,c]
 rcases AL (n/32) (W a).length with h | h
 · rw [Ab1 (by simp;omega)]
   have f:i64.wrap ((((W a).length:Nat):Int)-((n/32:Nat):Int))=(((W a).length-n/32:Nat):Int):=by rw [wrI (by omega) (by omega)];omega
   rw [f,Bb0 (by omega),AA]
   have loop:=Ac7 (b:=Ar4 (W a) (n:Int)) (fun i=>((i:Int),dl ((W a).length-n/32) i (a/2^n))) (o:=dl ((W a).length-n/32) ((W a).length-n/32) (a/2^n)) ((W a).length-n/32) (by rw [Af4];omega) (fun i hi=>by
    unfold Ar4
    simp only [AA,c,e,Aq8]
    have g:=Am1 a (i+n/32)
    have m:=Am1 a (i+n/32+1)
    rw [Ab0 (by simp;omega),Bs0 (by omega),An1 (Bk2 a) (by omega),AA,Bf0,wrU (by omega)]
    have j:(cond (decide (((i+n/32+1:Nat):Int)<(((W a).length:Nat):Int))) ((atI (W a) ((i+n/32+1:Nat):Int)).bind fun l=>some (u64.wrap (AI u64.bits (u64.wrap ((dg a (i+n/32):Nat):Int)) ||| AI u64.bits (u64.wrap ((u64.wrap l)*2^(min (32:Int).toNat u64.bits)))).toNat)) (some (u64.wrap ((dg a (i+n/32):Nat):Int))))=some ((dg a (i+n/32)+dg a (i+n/32+1)*4294967296:Nat):Int):=by
     rw [Ap1 (n:=dg a (i+n/32)) (by omega)]
     rcases AL (i+n/32+1) (W a).length with k | k
     · rw [Ab0 (by rw [decide_eq_true_iff];omega),An1 (Bk2 a) k,AA,Bf0,Ap1 (n:=dg a (i+n/32+1)) (by omega),Ez5]
       have ex:((dg a (i+n/32+1):Nat):Int)*2^32=((dg a (i+n/32+1)*4294967296:Nat):Int):=by simp
       have hor:dg a (i+n/32) ||| dg a (i+n/32+1)*4294967296=dg a (i+n/32)+dg a (i+n/32+1)*4294967296:=Br5 (s:=32) g
       rw [ex,Ap1 (n:=dg a (i+n/32+1)*4294967296) (by omega),Gt1 (by omega) (by omega),hor,Ap1 (by omega)]
     · rw [Ab1 (by simp;omega),show dg a (i+n/32+1)=0 from Bh8 (AC (Ad2 a) (AD (by omega) k))]
       simp
    rw [j,AA,Fv0,AA,Ac1 0 (by rw [Aq8];omega)]
    simp only [AA,AE]
    have eb:min (n%32) u64.bits=n%32:=by
     have:u64.bits=64:=rfl
     omega
    rw [eb,fdn,Cz9,← Fp0,Ep8,wrU (by omega)]) (by
    unfold Ar4
    simp only [AA,Aq8]
    rw [Ab1 (by simp)])
   rw [Eg1] at loop
   have loop:Af5 (Ar4 (W a) (n:Int)) FU (0,List.replicate ((W a).length-n/32) 0)=_:=loop
   rw [loop,AA,Aw4 (Eu3 _ _ _) (by rw [Aq8];omega),Fh3]
   refine AY (Nat.div_le_div_left (AD (by omega) (show 32*(n/32)≤n by omega)) (AR _)) ?_
   refine (AZ (AR _)).2 ?_
   rw [AT,show (2:Nat)^32=4294967296 from rfl,← AS,show (W a).length-n/32+n/32=(W a).length by omega]
   exact Ad2 a
 · rw [Ab0 (by simp;omega)]
   have:a/2^n=0:=by
    refine BC (AC (Ad2 a) ?_)
    rw [show (4294967296:Nat)=2^32 from rfl,← AT]
    exact AD (by omega) (by omega)
   rw [this,Ap5]
theorem Dm2 {n:Nat} (h:n≠0):blN n=blN (n/2)+1:=by
 unfold blN
 rw [if_neg h]
 by_cases a:n/2=0
 · have:n=1:=by omega
   subst this;decide
 · rw [if_neg a,Nat.log2_def n,if_pos (by omega)]
theorem Fj9 (n k:Nat) (h:2^k≤n):blN (n/2^k)+k=blN n:=by
 induction k generalizing n with
 | zero=>simp
 | succ k ih=>
   have hp:0<2^k:=AR k
   rw [AQ] at h
   have hn:n≠0:=by omega
   rw [AQ,AK,← AH,← Nat.add_assoc,ih (n/2) (by omega),← Dm2 hn]
theorem Bx1 {n k:Nat}:blN n≤k↔n<2^k:=by
 unfold blN
 by_cases h:n=0
 · subst h;simp;exact AR k
 · rw [if_neg h]
   constructor
   · intro hk;exact AC Nat.lt_log2_self (AD (by omega) hk)
   · intro hk;have:=(Nat.log2_lt h).2 hk;omega
theorem Fw8 {t:Nat} (ht:t<4294967296):Af5 Ao6 FU (0,(t:Int))=some ((blN t:Nat):Int):=by
 have hb:blN t≤32:=Bx1.2 (by simpa using ht)
 have:=Ac7 (b:=Ao6) (fun i=>((i:Int),((t/2^i:Nat):Int))) (o:=((blN t:Nat):Int)) (blN t) (by rw [Af4];omega) (fun i hi=>by
  unfold Ao6
  dsimp only
  have hne:t/2^i≠0:=by
   intro e
   have:t<2^i:=by
    rcases AL t (2^i) with k | k
    · exact k
    · have:=Nat.div_pos k (AR i);omega
   have:=Bx1.2 this
   omega
  rw [Ab0 (by rw [bne_iff_ne];omega),show min (1:Int).toNat IntKind.u32.bits=1 by decide,fdn,wrU (by omega),AH,← AS]) (by
  unfold Ao6
  dsimp only
  have:t/2^blN t=0:=BC (Bx1.1 (Nat.le_refl _))
  rw [this]
  rfl)
 simpa using this
theorem Ha9 {a:Nat} (h:a≠0):(W a).length≠0∧dg a ((W a).length-1)=a/4294967296^((W a).length-1)∧4294967296^((W a).length-1)≤a:=by
 have hl:(W a).length≠0:=fun e=>h (Cs5.1 (AF e))
 refine ⟨hl,?_,Dl1 h⟩
 unfold dg
 refine AG ((AZ (Ac5 _)).2 ?_)
 have:=Ad2 a
 rw [show (W a).length=((W a).length-1)+1 by omega,AQ,AK] at this
 exact this
theorem Ep9 {a:Nat} (ha:(W a).length≤4294967296):Ax9 (W a)=some ((blN a:Nat):Int):=by
 unfold Ax9
 simp only [AA]
 by_cases b:a=0
 · subst b;rw [Ap5];rfl
 · obtain ⟨hl,ht,hge⟩:=Ha9 b
   have e:i64.wrap ((((W a).length:Nat):Int)-1)=(((W a).length-1:Nat):Int):=by rw [wrI (by omega) (by omega)];omega
   have hb:=Fj9 a (32*((W a).length-1)) (by rw [AT];exact hge)
   have hd:a/2^(32*((W a).length-1))=dg a ((W a).length-1):=by rw [ht,AT]
   rw [hd] at hb
   have c:blN (dg a ((W a).length-1))≤32:=Bx1.2 (by have:=Am1 a ((W a).length-1);simpa using this)
   rw [Ab1 (by rw [beq_eq_false_iff_ne];omega),e,An1 (Bk2 a) (by omega),AA,Bf0,Fw8 (Am1 _ _),AA,wrI (n:=(((W a).length-1:Nat):Int)*32) (by omega) (by omega),wrI (by omega) (by omega)]
   congr 1;omega
theorem Fp7 {a b:Nat} (ha:(W a).length≤4294967296) (hb:(W b).length≤4294967296):Bk1 (W a) (W b)=some (if a<b then -1 else if a=b then 0 else 1):=by
 unfold Bk1
 simp only [AA]
 by_cases hl:(W a).length=(W b).length
 · rw [Ab1 (by simp [hl])]
   -- the first word from above that parts
   rcases Ar7 (fun i=>dg a ((W a).length-1-i) != dg b ((W a).length-1-i)) (W a).length with h | ⟨i,hi,f,l⟩
   · have hab:a=b:=by
      have e:W a=W b:=Cm6 0 hl fun k hk=>by
       rw [Fm6,Fm6]
       have:=h ((W a).length-1-k) (by omega)
       rw [show (W a).length-1-((W a).length-1-k)=k by omega] at this
       have:dg a k=dg b k:=by simpa using this
       rw [this]
      rw [← Bf0 a,← Bf0 b,e]
     subst hab
     have loop:=Ac7 (b:=Ar0 (W a) (W a)) (fun i=>(((W a).length:Nat):Int)-1-(i:Int)) (o := .inl ()) (W a).length (by rw [Af4];omega) (fun i hi=>by
      unfold Ar0
      dsimp only
      have e:(((W a).length:Nat):Int)-1-(i:Int)=(((W a).length-1-i:Nat):Int):=by omega
      have c:i64.wrap ((((W a).length:Nat):Int)-1-(i:Int)-1)=(((W a).length:Nat):Int)-1-((i+1:Nat):Int):=by rw [wrI (by omega) (by omega)];omega
      rw [Ab0 (by simp;omega),c,e,An1 (Bk2 a) (by omega)]
      simp) (by
      unfold Ar0
      dsimp only
      rw [Ab1 (by rw [decide_eq_false_iff_not];omega)])
     have e:i64.wrap ((((W a).length:Nat):Int)-1)=(((W a).length:Nat):Int)-1-((0:Nat):Int):=by rw [wrI (by omega) (by omega)];omega
     rw [e,loop]
     simp
   · have hj:(W a).length-1-i<(W a).length:=by omega
     generalize hJ:(W a).length-1-i=j at *
     have same:∀ k,j<k→dg a k=dg b k:=fun k hk=>by
      rcases AL k (W a).length with g | g
      · have:=l ((W a).length-1-k) (by omega)
        rw [show (W a).length-1-((W a).length-1-k)=k by omega] at this
        simpa using this
      · rw [Bh8 (AC (Ad2 a) (AD (by omega) g)),Bh8 (AC (Ad2 b) (AD (by omega) (by omega)))]
     have high:a/4294967296^(j+1)=b/4294967296^(j+1):=by
      -- equal words above
      have key:∀ m,a/4294967296^(j+1)%4294967296^m=b/4294967296^(j+1)%4294967296^m:=by
       intro m
       induction m with
       | zero=>simp [BF]
       | succ m ih=>
         have d:∀ x:Nat,dg (x/4294967296^(j+1)) m=dg x (j+1+m):=fun x=>by
          unfold dg;rw [AH,← AS]
         rw [Ae1,Ae1,ih,d,d,same _ (by omega)]
      have la:a/4294967296^(j+1)<4294967296^(W a).length:=AY (BN _ _) (Ad2 a)
      have lb:b/4294967296^(j+1)<4294967296^(W a).length:=AY (BN _ _) (by rw [hl];exact Ad2 b)
      have:=key (W a).length
      rwa [Ay7 la,Ay7 lb] at this
     have ea:=Ae1 a j
     have eb:=Ae1 b j
     have da:=AU a (4294967296^(j+1))
     have db:=AU b (4294967296^(j+1))
     have la:=BB a (Ac5 j)
     have lb:=BB b (Ac5 j)
     rw [high] at da
     have loop:=Ac7 (b:=Ar0 (W a) (W b)) (fun i=>(((W a).length:Nat):Int)-1-(i:Int)) (o := .inr (if dg a j<dg b j then -1 else 1)) i (by rw [Af4];omega) (fun k hk=>by
      unfold Ar0
      dsimp only
      have e:(((W a).length:Nat):Int)-1-(k:Int)=(((W a).length-1-k:Nat):Int):=by omega
      have c:i64.wrap ((((W a).length:Nat):Int)-1-(k:Int)-1)=(((W a).length:Nat):Int)-1-((k+1:Nat):Int):=by rw [wrI (by omega) (by omega)];omega
      have hs:dg a ((W a).length-1-k)=dg b ((W a).length-1-k):=same _ (by omega)
      rw [Ab0 (by simp;omega),c,e,An1 (Bk2 a) (by omega),AA,An1 (Bk2 b) (by omega),AA,Bf0,Bf0,hs]
      simp) (by
      unfold Ar0
      dsimp only
      have e:(((W a).length:Nat):Int)-1-(i:Int)=((j:Nat):Int):=by omega
      have hne:dg a j≠dg b j:=by simpa using f
      rw [Ab0 (by simp;omega),e,An1 (Bk2 a) (by omega),AA,An1 (Bk2 b) (by omega),AA,Bf0,Bf0,Ab0 (by rw [bne_iff_ne];omega)]
      simp only [AA]
      by_cases hlt:dg a j<dg b j
      · rw [if_pos hlt,Ab0 (by simpa using hlt)]
      · rw [if_neg hlt,Ab1 (by simpa using hlt)])
     have e:i64.wrap ((((W a).length:Nat):Int)-1)=(((W a).length:Nat):Int)-1-((0:Nat):Int):=by rw [wrI (by omega) (by omega)];omega
     rw [e,loop]
     have hne:dg a j≠dg b j:=by simpa using f
     rw [AA]
     dsimp only
     congr 1
     generalize 4294967296^(j+1)*(b/4294967296^(j+1))=H at *
     generalize 4294967296^j=P at *
     by_cases hlt:dg a j<dg b j
     · have:(dg a j+1)*P≤dg b j*P:=AW _ hlt
       rw [AJ] at this
       rw [if_pos hlt,if_pos (by omega)]
     · have:(dg b j+1)*P≤dg a j*P:=AW _ (by omega)
       rw [AJ] at this
       rw [if_neg hlt,if_neg (by omega),if_neg (by omega)]
 · rw [Ab0 (by rw [bne_iff_ne];omega)]
   by_cases hlt:(W a).length<(W b).length
   · have:a<b:=by
      rcases AL a b with k | k
      · exact k
      · have:=Bc0 k;omega
     rw [Ab0 (by simpa using hlt),if_pos this]
   · have:b<a:=by
      rcases AL b a with k | k
      · exact k
      · have:=Bc0 k;omega
     rw [Ab1 (by simpa using hlt),if_neg (by omega),if_neg (by omega)]
end Go.Eng
/-
  Whole numbers of any size: what each method comes to, on the words of a number. No condition.
-/
namespace Go.Eng
open Go
theorem As3 {z:Int} (h:z.natAbs.log2<34359738368):(W z.natAbs).length≤1073741824:=by
 have:=Fm0 z.natAbs
 omega
theorem Ch9 (n:Nat):decide (0<(W n).length)=decide (n≠0):=by
 by_cases h:n=0
 · subst h;rw [Ap5];rfl
 · have:(W n).length≠0:=fun e=>h (Cs5.1 (AF e))
   rw [decide_eq_true h,decide_eq_true (by omega)]
theorem Ag4 {z:Int} {f:Int→Option Int} {y:Int} (h:(Bw8 z).bind f=some y):z.natAbs.log2<34359738368∧f z=some y:=by
 obtain ⟨a,b,c⟩:=bnd h
 obtain ⟨rfl,d⟩:=Ga5 b
 exact ⟨d,c⟩
theorem Gn7 {z y:Int} (h:An3 z=some y):Bz1 (decide (z<0)) (W z.natAbs)=some y:=by
 unfold An3 at h
 rw [← Option.some.inj h]
 unfold Bz1
 rw [AA]
 by_cases hz:z=0
 · subst hz
   rw [show (0:Int).natAbs=0 from rfl,Ap5];rfl
 · have:(W z.natAbs).length≠0:=fun e=>by have:=Cs5.1 (AF e);omega
   rw [Ab1 (by rw [beq_eq_false_iff_ne];omega)]
   by_cases hn:z<0
   · rw [decide_eq_true hn,cT,if_pos hn]
   · rw [decide_eq_false hn,cF,if_neg hn,if_neg hz]
theorem Fr1 {z y:Int} (h:Be1 z=some y):Bj4 (decide (z<0)) (W z.natAbs)=some y:=by
 obtain ⟨a,b⟩:=Ag4 h
 unfold Bj4
 rw [Ep9 (by have:=As3 a;omega)]
 exact b
theorem Fu6 {z y:Int} (h:Aw0 z=some y):Bj7 (decide (z<0)) (W z.natAbs)=some y:=by
 unfold Aw0 at h
 rw [← Option.some.inj h]
 unfold Bj7
 generalize z.natAbs=n
 simp only [AA]
 have a:=Am1 n 0
 have c:=Am1 n 1
 have d:dg n 0=n%4294967296:=Ce8 n
 have e:dg n 1=n/4294967296%4294967296:=by unfold dg;rw [Nat.pow_one]
 have a0:(cond (decide ((((W n).length:Nat):Int)>0)) ((atI (W n) 0).bind fun b=>some (u64.wrap b)) (some 0))=some ((dg n 0:Nat):Int):=by
  rcases AL 0 (W n).length with k | k
  · rw [Ab0 (by rw [decide_eq_true_iff];omega),show (0:Int)=((0:Nat):Int) from rfl,An1 (Bk2 n) k,AA,Bf0,Ap1 (by omega)]
  · have:n=0:=Cs5.1 (AF (by omega))
    subst this
    rw [Ab1 (by rw [decide_eq_false_iff_not];omega)];rfl
 rw [a0,AA]
 rcases AL 1 (W n).length with k | k
 · have ex:((dg n 1:Nat):Int)*2^32=((dg n 1*4294967296:Nat):Int):=by simp
   have hor:dg n 0 ||| dg n 1*4294967296=dg n 0+dg n 1*4294967296:=Br5 (s:=32) a
   rw [Ab0 (by rw [decide_eq_true_iff];omega),show (1:Int)=((1:Nat):Int) from rfl,An1 (Bk2 n) k,AA,Bf0,Ap1 (n:=dg n 1) (by omega),Ez5,ex,Ap1 (n:=dg n 1*4294967296) (by omega),Gt1 (by omega) (by omega),hor,Ap1 (by omega)]
   simp only [AA]
   congr 1;omega
 · have hl:=AC (Ad2 n) (AD (n:=4294967296) (by omega) k)
   rw [Ab1 (by rw [decide_eq_false_iff_not];omega)]
   simp only [AA]
   congr 1;omega
theorem Ee1 {n y:Int} (h:Ak6 n=some y):Ay9 n=some (decide (y<0),W y.natAbs):=by
 unfold Ak6 at h
 split at h
 · rename_i hn
   obtain rfl:=Option.some.inj h
   obtain ⟨k,rfl⟩:∃ k:Nat,n=k:=⟨n.toNat,by omega⟩
   unfold Ay9
   rw [Dl8 (by omega),AA,AA,BH,decide_eq_false (by omega)]
   rfl
 · cases h
theorem Es9 {n y:Int} (h:At5 n=some y):Bb7 n=some (decide (y<0),W y.natAbs):=by
 unfold At5 at h
 split at h
 · rename_i hn
   obtain rfl:=Option.some.inj h
   unfold Bb7
   have e:(cond (decide (n<0)) (some (u64.wrap (0-(u64.wrap n)))) (some (u64.wrap n)))=some ((n.natAbs:Nat):Int):=by
    by_cases a:n<0
    · rw [Ab0 (by simpa using a),w64,w64];congr 1;omega
    · rw [Ab1 (by simpa using a),w64];congr 1;omega
   rw [e,AA,Dl8 (by omega),AA,AA,Ch9]
   have:(decide (n<0)&&decide (n.natAbs≠0))=decide (n<0):=by
    by_cases a:n<0
    · rw [decide_eq_true a,decide_eq_true (by omega)];rfl
    · rw [decide_eq_false a];rfl
   rw [this]
 · cases h
theorem Ha1 {z y:Int} (h:Bo3 z=some y):Cn9 (decide (z<0)) (W z.natAbs)=some (decide (y<0),W y.natAbs):=by
 obtain ⟨a,b⟩:=Ag4 h
 obtain rfl:=Option.some.inj b
 unfold Cn9
 rw [Ff8 (by have:=As3 a;omega),AA,AA,BH,decide_eq_false (by omega)]
 rfl
theorem Gy0 {z y:Int} (h:Cr3 z=some y):Co3 (decide (z<0)) (W z.natAbs)=some (decide (y<0),W y.natAbs):=by
 obtain ⟨a,b⟩:=Ag4 h
 obtain rfl:=Option.some.inj b
 unfold Co3
 rw [Ff8 (by have:=As3 a;omega),AA,AA,Ch9,Int.natAbs_neg]
 have:((!decide (z<0))&&decide (z.natAbs≠0))=decide (-z<0):=by
  rcases BJ z 0 with h | h | h
  · rw [decide_eq_true h,decide_eq_false (by omega : ¬ -z<0)];rfl
  · subst h;rfl
  · rw [decide_eq_false (by omega),decide_eq_true (by omega),decide_eq_true (by omega)];rfl
 rw [this]
theorem Hc3 {z n y:Int} (h:Bf5 z n=some y):Cn7 (decide (z<0)) (W z.natAbs) n=some (decide (y<0),W y.natAbs):=by
 unfold Bf5 at h
 split at h
 · rename_i hn
   obtain ⟨c,d⟩:=Ag4 h
   obtain ⟨rfl,f⟩:=Ga5 d
   obtain ⟨k,rfl⟩:∃ k:Nat,n=k:=⟨n.toNat,by omega⟩
   unfold Cn7
   have hp:0<2^k:=AR k
   rw [Fb3 (by omega) (by have:=As3 c;omega),AA,AA,Ch9,AE,Int.natAbs_mul,BD]
   generalize 2^k=P at hp
   have:(decide (z<0)&&decide (z.natAbs*P≠0))=decide (z*(P:Int)<0):=by
    by_cases a:z<0
    · have b:z*(P:Int)<0:=BI a (by omega)
      have e:z.natAbs*P≠0:=BO (by omega) (by omega)
      rw [decide_eq_true a,decide_eq_true b,decide_eq_true e];rfl
    · have b : ¬ z*(P:Int)<0:=by have:=Int.mul_nonneg (show 0≤z by omega) (show (0:Int)≤P by omega);omega
      rw [decide_eq_false a,decide_eq_false b];rfl
   rw [this]
 · cases h
theorem Gt7 {z n y:Int} (h:Bi2 z n=some y):Bf7 (decide (z<0)) (W z.natAbs) n=some (decide (y<0),W y.natAbs):=by
 unfold Bi2 at h
 split at h
 · rename_i hn
   obtain ⟨a,b⟩:=Ag4 h
   obtain rfl:=Option.some.inj b
   obtain ⟨k,rfl⟩:∃ k:Nat,n=k:=⟨n.toNat,by omega⟩
   unfold Bf7
   rw [decide_eq_false (show ¬ z<0 by omega),cF,Do9 (by omega) (by have:=As3 a;omega),AA,AA,BH,AE,BD,decide_eq_false (Int.not_lt.2 (Int.natCast_nonneg _))]
 · cases h
def sgZ (s:Bool) (a:Nat):Int:=if s then -(a:Int) else (a:Int)
theorem Fe9 (z:Int):sgZ (decide (z<0)) z.natAbs=z:=by
 unfold sgZ
 by_cases h:z<0
 · rw [decide_eq_true h,if_pos rfl];omega
 · rw [decide_eq_false h,if_neg (by simp)];omega
theorem Gq5 {s t:Bool} {a b:Nat} (ha:(W a).length≤1073741824) (hb:(W b).length≤1073741824) :
 ∃ f,Br0 s (W a) t (W b)=some (f,W (sgZ s a+sgZ t b).natAbs)∧(f&&decide ((sgZ s a+sgZ t b).natAbs≠0))=decide (sgZ s a+sgZ t b<0):=by
 unfold Br0
 by_cases hst:s=t
 · subst hst
   rw [Ab0 (by simp),Gm6 (by omega) (by omega),AA]
   have e:(sgZ s a+sgZ s b).natAbs=a+b:=by unfold sgZ;cases s<;>simp<;>omega
   rw [e]
   refine ⟨s,rfl,?_⟩
   unfold sgZ
   cases s
   · simp;omega
   · simp only [if_true,Bool.true_and]
     rw [decide_eq_decide];omega
 · rw [Ab1 (by simpa using hst),Fp7 (by omega) (by omega),AA]
   by_cases hab:a<b
   · rw [if_pos hab,Ab1 (by decide),Gk8 (by omega) (by omega),AA]
     have e:(sgZ s a+sgZ t b).natAbs=b-a:=by unfold sgZ;cases s<;>cases t<;>simp at hst ⊢ <;> omega
     rw [e]
     refine ⟨t,rfl,?_⟩
     rw [CA,BY,decide_eq_true_iff,decide_eq_true_iff]
     clear e
     cases s<;>cases t<;>simp only [sgZ,eq_self,false_iff,if_true,BS,if_false,true_and,false_and,not_true_eq_false,not_false_eq_true,reduceCtorEq] at hst ⊢ <;> omega
   · have hc:decide ((if a<b then (-1:Int) else if a=b then 0 else 1)≥0)=true:=by
      rw [if_neg hab];split<;>decide
     rw [hc,cT,Gk8 (by omega) (by omega),AA]
     have e:(sgZ s a+sgZ t b).natAbs=a-b:=by unfold sgZ;cases s<;>cases t<;>simp at hst ⊢ <;> omega
     rw [e]
     refine ⟨s,rfl,?_⟩
     rw [CA,BY,decide_eq_true_iff,decide_eq_true_iff]
     clear e
     cases s<;>cases t<;>simp only [sgZ,eq_self,false_iff,if_true,BS,if_false,true_and,false_and,not_true_eq_false,not_false_eq_true,reduceCtorEq] at hst ⊢ <;> omega
theorem Hc2 {x y z:Int} (h:Au1 x y=some z):Cn5 (decide (x<0)) (W x.natAbs) (decide (y<0)) (W y.natAbs)=some (decide (z<0),W z.natAbs):=by
 obtain ⟨c,h⟩:=Ag4 h
 obtain ⟨d,h⟩:=Ag4 h
 obtain rfl:=Option.some.inj h
 unfold Cn5
 obtain ⟨f,a,b⟩:=Gq5 (s:=decide (x<0)) (t:=decide (y<0)) (As3 c) (As3 d)
 rw [Fe9,Fe9] at a b
 rw [a,AA]
 dsimp only
 rw [Ch9,AA,b]
theorem Ha8 {x y z:Int} (h:Ct9 x y=some z):Cn0 (decide (x<0)) (W x.natAbs) (decide (y<0)) (W y.natAbs)=some (decide (z<0),W z.natAbs):=by
 obtain ⟨c,h⟩:=Ag4 h
 obtain ⟨d,h⟩:=Ag4 h
 obtain rfl:=Option.some.inj h
 unfold Cn0
 obtain ⟨f,a,b⟩:=Gq5 (s:=decide (x<0)) (t := !decide (y<0)) (As3 c) (As3 d)
 have e:sgZ (!decide (y<0)) y.natAbs = -y:=by
  unfold sgZ
  by_cases h:y<0
  · rw [decide_eq_true h];simp;omega
  · rw [decide_eq_false h];simp;omega
 rw [Fe9,e,← Int.sub_eq_add_neg] at a b
 rw [a,AA]
 dsimp only
 rw [Ch9,AA,b]
theorem Hc1 {x y z:Int} (h:Bt7 x y=some z):Cn6 (decide (x<0)) (W x.natAbs) (decide (y<0)) (W y.natAbs)=some (decide (z<0),W z.natAbs):=by
 obtain ⟨d,h⟩:=Ag4 h
 obtain ⟨e,h⟩:=Ag4 h
 obtain rfl:=Option.some.inj h
 unfold Cn6
 rw [Hb3 (by have:=As3 d;have:=As3 e;omega),AA,AA,Ch9,Int.natAbs_mul]
 have:((!(decide (x<0)==decide (y<0)))&&decide (x.natAbs*y.natAbs≠0))=decide (x*y<0):=by
  rcases BJ x 0 with a | a | a<;>rcases BJ y 0 with b | b | b
  · have:=Int.mul_pos_of_neg_of_neg a b
    rw [decide_eq_true a,decide_eq_true b,decide_eq_false (by omega : ¬ x*y<0)];rfl
  · subst b;simp
  · have:=BI a b
    have c:x.natAbs*y.natAbs≠0:=BO (by omega) (by omega)
    rw [decide_eq_true a,decide_eq_false (by omega : ¬ y<0),decide_eq_true this,decide_eq_true c];rfl
  · subst a;simp
  · subst a;simp
  · subst a;simp
  · have:=Int.mul_neg_of_pos_of_neg a b
    have c:x.natAbs*y.natAbs≠0:=BO (by omega) (by omega)
    rw [decide_eq_false (by omega : ¬ x<0),decide_eq_true b,decide_eq_true this,decide_eq_true c];rfl
  · subst b;simp
  · have:=Int.mul_pos a b
    rw [decide_eq_false (by omega : ¬ x<0),decide_eq_false (by omega : ¬ y<0),decide_eq_false (by omega : ¬ x*y<0)];rfl
 rw [this]
theorem Gw9 {x y z:Int} (h:Dy7 x y=some z):Co1 (decide (x<0)) (W x.natAbs) (decide (y<0)) (W y.natAbs)=some z:=by
 obtain ⟨hx,h⟩:=Ag4 h
 obtain ⟨hy,h⟩:=Ag4 h
 obtain rfl:=Option.some.inj h
 unfold Co1
 have lx:=As3 hx
 have ly:=As3 hy
 by_cases a:x<0<;>by_cases b:y<0
 · rw [decide_eq_true a,decide_eq_true b,Ab1 (by rfl),Fp7 (by omega) (by omega),AA,cT]
   congr 1
   by_cases c:x.natAbs<y.natAbs
   · rw [if_pos c,if_neg (by omega),if_neg (by omega)];decide +kernel
   · by_cases d:x.natAbs=y.natAbs
     · rw [if_neg c,if_pos d,if_neg (by omega),if_pos (by omega)];decide +kernel
     · rw [if_neg c,if_neg d,if_pos (by omega)];decide +kernel
 · rw [decide_eq_true a,decide_eq_false b,Ab0 (by rfl),cT,if_pos (by omega)]
 · rw [decide_eq_false a,decide_eq_true b,Ab0 (by rfl),cF,if_neg (by omega),if_neg (by omega)]
 · rw [decide_eq_false a,decide_eq_false b,Ab1 (by rfl),Fp7 (by omega) (by omega),AA,cF]
   congr 1
   by_cases c:x.natAbs<y.natAbs
   · rw [if_pos c,if_pos (by omega)]
   · by_cases d:x.natAbs=y.natAbs
     · rw [if_neg c,if_pos d,if_neg (by omega),if_pos (by omega)]
     · rw [if_neg c,if_neg d,if_neg (by omega),if_neg (by omega)]
theorem Gs6 {a i:Nat} (hi:i<9223372036854775808) (ha:(W a).length≤1073741824):Cb2 (W a) (i:Int)=some ((a/2^i%2:Nat):Int):=by
 unfold Cb2
 have b:(i:Int).tdiv 32=((i/32:Nat):Int):=rfl
 rw [Ab0 (by simp),AA,b,wrN (by omega)]
 have hpow:(2:Nat)^i=4294967296^(i/32)*2^(i%32):=by
  rw [show (4294967296:Nat)=2^32 from rfl,← AT,← AS];congr 1;omega
 rcases AL (i/32) (W a).length with h | h
 · rw [Ab1 (by rw [decide_eq_false_iff_not];omega),An1 (Bk2 a) h,AA,Bf0,Ap1 (n:=i) (by omega)]
   have c:(i:Int).tmod 32=((i%32:Nat):Int):=rfl
   have d:min (i%32) IntKind.u32.bits=i%32:=by
    have:IntKind.u32.bits=32:=rfl
    omega
   have hd:=Am1 a (i/32)
   have hle:dg a (i/32)/2^(i%32)≤dg a (i/32):=BN _ _
   rw [c,Fv0,AA,AE,d,fdn,Ap1 (n:=dg a (i/32)/2^(i%32)) (by omega),show (1:Int)=((1:Nat):Int) from rfl,Gz0 (by omega) (by omega),Nat.and_one_is_mod,Ap1 (by omega)]
   congr 2
   unfold dg
   rw [hpow,← AH]
   generalize a/4294967296^(i/32)=Z
   have:(4294967296:Nat)=2^(i%32)*(2*2^(31-i%32)):=by
    rw [show (2:Nat)*2^(31-i%32)=2^(32-i%32) by rw [show 32-i%32=(31-i%32)+1 by omega,AQ,AK],← AS,show i%32+(32-i%32)=32 by omega]
   conv=>lhs;rw [this]
   rw [Nat.mod_mul_right_div_self,Nat.mod_mul_right_mod]
 · rw [Ab0 (by rw [decide_eq_true_iff];omega)]
   have:a/2^i=0:=by
    refine BC (AC (Ad2 a) ?_)
    rw [show (4294967296:Nat)=2^32 from rfl,← AT]
    exact AD (by omega) (by omega)
   rw [this];rfl
theorem Gj2 {n:Nat} (h:n%2=1):tzN n=0:=by rw [Cx1,if_neg (by omega),if_pos h]
theorem Er2 {n:Nat} (a:n≠0) (h:n%2=0):tzN n=tzN (n/2)+1:=by rw [Cx1,if_neg a,if_neg (by omega)]
theorem Fu7:tzN 0=0:=by rw [Cx1,if_pos rfl]
theorem Bw7 {n:Nat} (h:n≠0):n=2^tzN n*(n/2^tzN n)∧n/2^tzN n%2=1∧∀ i,i<tzN n→n/2^i%2=0:=by
 induction n using Nat.strongRecOn with
 | ind n ih=>
   by_cases a:n%2=1
   · rw [Gj2 a]
     exact ⟨by simp,by simpa using a,fun i hi=>by omega⟩
   · have b:n%2=0:=by omega
     obtain ⟨c,d,f⟩:=ih (n/2) (by omega) (by omega)
     rw [Er2 h b]
     have e:n/2^(tzN (n/2)+1)=n/2/2^tzN (n/2):=by rw [AQ,AK,← AH]
     rw [e]
     refine ⟨?_,d,fun i hi=>?_⟩
     · rw [AQ,AK (2^tzN (n/2)) 2,BK,← c];omega
     · cases i with
       | zero=>simpa using b
       | succ i=>
         rw [AQ,AK,← AH]
         exact f i (by omega)
theorem En0 {n:Nat} (h:n≠0):tzN n<blN n:=by
 obtain ⟨b,a,_⟩:=Bw7 h
 have:2^tzN n≤n:=by
  have g:0<n/2^tzN n:=by
   rcases Nat.eq_zero_or_pos (n/2^tzN n) with g | g
   · rw [g] at a;cases a
   · exact g
  conv=>rhs;rw [b]
  exact BL _ g
 rcases AL (tzN n) (blN n) with g | g
 · exact g
 · have:=Bx1.1 g;omega
theorem Hf5 {z y:Int} (h:Af2 z=some y):Ak8 (decide (z<0)) (W z.natAbs)=some y:=by
 obtain ⟨c,d⟩:=Ag4 h
 obtain rfl:=Option.some.inj d
 have hl:=As3 c
 unfold Ak8
 rw [AA]
 generalize z.natAbs=n at *
 by_cases a:n=0
 · subst a;rw [Ap5,Fu7];rfl
 · have:(W n).length≠0:=fun e=>a (Cs5.1 (AF e))
   rw [Ab1 (by rw [beq_eq_false_iff_ne];omega)]
   obtain ⟨_,f,g⟩:=Bw7 a
   have kl:=En0 a
   have hb:blN n≤34359738368:=by unfold blN;rw [if_neg a];omega
   have loop:=Ac7 (b:=Af3 (W n)) (fun i=>(i:Int)) (o:=((tzN n:Nat):Int)) (tzN n) (by rw [Af4];omega) (fun i hi=>by
    unfold Af3
    dsimp only
    rw [wrN (by omega),Gs6 (by omega) hl,AA,g i hi,Ab0 (by rfl),← Int.natCast_succ,Ap1 (by omega)]) (by
    unfold Af3
    dsimp only
    rw [wrN (by omega),Gs6 (by omega) hl,AA,f,Ab1 (by rfl)])
   rw [show ((0:Nat):Int)=0 from rfl] at loop
   rw [loop];rfl
theorem Gz9 (a b k:Nat):dg (a ||| b) k=dg a k ||| dg b k:=by
 unfold dg
 rw [show (4294967296:Nat)=2^32 from rfl,← AT,← AN,← AN,← AN,Nat.shiftRight_or_distrib,Nat.or_mod_two_pow]
theorem Gp9 (a b k:Nat):dg (a &&& b) k=dg a k &&& dg b k:=by
 unfold dg
 rw [show (4294967296:Nat)=2^32 from rfl,← AT,← AN,← AN,← AN,Nat.shiftRight_and_distrib,Nat.and_mod_two_pow]
def pw (a m:Nat):List Int:=dl m m a
theorem Fv3 {a m:Nat} (h:(W a).length≤m) (hm:m≤1099511627776):Be6 false (W a) (m:Int)=some (pw a m):=by
 unfold Be6
 rw [Bb0 hm,AA,AA,cF,AA]
 congr 1
 unfold Fd1
 refine Cm6 0 (by simp [pw,Aq8];omega) fun k hk=>?_
 have hkm:k<m:=by simp at hk;omega
 unfold pw
 rw [Dm6 hkm,if_pos hkm]
 rw [List.length_replicate,List.take_of_length_le h]
 rcases AL k (W a).length with g | g
 · rw [AB,List.getElem?_append_left g,← AB,Fm6]
 · rw [Bh8 (AC (Ad2 a) (AD (by omega) g)),AB,List.getElem?_append_right g]
   rw [List.drop_replicate,List.getElem?_replicate]
   split<;>rfl
theorem Hd2 {l:List Int} (h:Wd l) (hl:l.length≤1099511627776) (a:l = []∨l.getD (l.length-1) 0<2147483648):Ce1 l=some (false,W (wv l)):=by
 unfold Ce1
 have e:((some ((l.length:Nat):Int)).bind fun c=>cond (decide (c>0)) ((some ((l.length:Nat):Int)).bind fun d=>(atI l (i64.wrap (d-1))).bind fun f=>some ((f.fdiv (2^(min (31:Int).toNat IntKind.u32.bits)))==1)) (some false))=some false:=by
  rw [AA]
  rcases a with a | a
  · subst a;rfl
  · by_cases hz:l.length=0
    · have:l = []:=AF hz
      subst this;rfl
    · have g:i64.wrap (((l.length:Nat):Int)-1)=((l.length-1:Nat):Int):=by rw [wrI (by omega) (by omega)];omega
      have hw:=Cg6 h (l.length-1)
      rw [Ab0 (by rw [decide_eq_true_iff];omega),AA,g,Ac1 0 (by omega),AA,show min (31:Int).toNat IntKind.u32.bits=31 by decide,BA _ (by decide)]
      congr 1
      rw [beq_eq_false_iff_ne]
      omega
 rw [e,AA,cF]
 have:=Aw4 h hl (fun b=>(some (false&&decide (0<b.length))).bind fun i=>some (i,b))
 rw [this,AA,BH]
theorem Cs0 {op:Nat→Nat→Nat} {a b m:Nat} {bd:Int×List Int→Option ((Int×List Int)⊕List Int)} (hm:m≤1099511627776)
 (step:∀ (i:Nat) (l:List Int),i<m→l.length=m→l.getD i 0=((dg a i:Nat):Int)→bd ((i:Int),l)=some (.inl (((i+1:Nat):Int),l.set i ((op (dg a i) (dg b i):Nat):Int)))) (stop:∀ l,bd ((m:Int),l)=some (.inr l)) :
 Af5 bd FU (0,pw a m)=some ((List.range m).map fun k=>((op (dg a k) (dg b k):Nat):Int)):=by
 have:=Ac7 (b:=bd) (fun i=>((i:Int),(List.range m).map fun k=>if k<i then ((op (dg a k) (dg b k):Nat):Int) else ((dg a k:Nat):Int))) (o:=(List.range m).map fun k=>((op (dg a k) (dg b k):Nat):Int)) m (by rw [Af4];omega) (fun i hi=>by
  rw [step i _ hi (by simp) (by simp [AB,hi])]
  congr 4
  refine Cm6 0 (by simp) fun k hk=>?_
  have hkm:k<m:=by simpa using hk
  by_cases e:k=i
  · subst e
    rw [AB,BE (by simpa using hkm)]
    simp [AB,hkm]
  · rw [AB,AP (Ne.symm e)]
    simp only [AB,List.getElem?_map,List.getElem?_range hkm,Option.map_some,BX]
    by_cases h:k<i
    · rw [if_pos h,if_pos (by omega)]
    · rw [if_neg h,if_neg (by omega)]) (by
  rw [stop]
  congr 2
  refine AX fun k hk=>?_
  rw [if_pos (List.mem_range.1 hk)])
 have e:(List.range m).map (fun k=>if k<0 then ((op (dg a k) (dg b k):Nat):Int) else ((dg a k:Nat):Int))=pw a m:=by
  unfold pw dl
  refine AX fun k hk=>?_
  rw [if_neg (by omega),if_pos (List.mem_range.1 hk)]
 rw [e] at this
 exact this
theorem Gm2 (x y:Nat):(if (y:Int)>(x:Int) then (y:Int) else (x:Int))=((max x y:Nat):Int):=by
 split<;>omega
theorem Hf0 {x y z:Int} (h:Ef0 x y=some z):Dn3 (decide (x<0)) (W x.natAbs) (decide (y<0)) (W y.natAbs)=some (decide (z<0),W z.natAbs):=by
 unfold Ef0 at h
 split at h
 · rename_i hp
   obtain ⟨f,h⟩:=Ag4 h
   obtain ⟨g,h⟩:=Ag4 h
   obtain rfl:=Option.some.inj h
   have lx:=As3 f
   have ly:=As3 g
   rw [decide_eq_false (show ¬ x<0 by omega),decide_eq_false (show ¬ y<0 by omega)]
   unfold Dn3
   simp only [AA,Gm2]
   generalize hM:max (W x.natAbs).length (W y.natAbs).length=M
   generalize x.natAbs=a at *
   generalize y.natAbs=b at *
   rw [wrU (by omega),Fv3 (by omega) (by omega),AA,Fv3 (by omega) (by omega),AA]
   have loop:=Cs0 (op:=fun p q=>p ||| q) (a:=a) (b:=b) (m:=M+1) (bd:=Bg8 (((W b).length:Nat):Int) (((W a).length:Nat):Int) (pw b (M+1))) (by omega) (fun i l hi hl hg=>by
    unfold Bg8
    dsimp only
    have c:=Am1 a i
    have d:=Am1 b i
    rw [Gm2,hM,wrU (by omega),Ab0 (by rw [decide_eq_true_iff];omega),Ac1 0 (by omega),hg]
    simp only [AA,AE]
    rw [Ac1 0 (by unfold pw;rw [Aq8];omega),show (pw b (M+1)).getD i 0=((dg b i:Nat):Int) by unfold pw;rw [Dm6 (by omega),if_pos (by omega)]]
    simp only [AA]
    rw [Ha7 c d,Cz9,AG (Gg9 c d),wrU (by omega)]) (fun l=>by
    unfold Bg8
    dsimp only
    rw [Gm2,hM,wrU (by omega),Ab1 (by simp)])
   rw [loop,AA]
   have ha:a<4294967296^M:=AC (Ad2 a) (AD (by omega) (by omega))
   have hb:b<4294967296^M:=AC (Ad2 b) (AD (by omega) (by omega))
   have hab:a ||| b<4294967296^M:=by
    rw [show (4294967296:Nat)=2^32 from rfl,← AT] at ha hb ⊢
    exact BV ha hb
   have e:(List.range (M+1)).map (fun k=>((dg a k ||| dg b k:Nat):Int))=dl (M+1) (M+1) (a ||| b):=by
    unfold dl
    refine AX fun k hk=>?_
    rw [if_pos (List.mem_range.1 hk),Gz9]
   rw [e,Hd2 (Eu3 _ _ _) (by rw [Aq8];omega) (.inr (by rw [Aq8,BT,Dm6 (by omega),if_pos (by omega),Bh8 hab];decide)),AA]
   dsimp only
   rw [Fh3 (AC hab (AD (by omega) (by omega))),decide_eq_false (by omega),BD]
 · cases h
theorem Gw5 {x y z:Int} (h:Di3 x y=some z):Co2 (decide (x<0)) (W x.natAbs) (decide (y<0)) (W y.natAbs)=some (decide (z<0),W z.natAbs):=by
 unfold Di3 at h
 split at h
 · rename_i hp
   obtain ⟨c,h⟩:=Ag4 h
   obtain ⟨d,h⟩:=Ag4 h
   obtain rfl:=Option.some.inj h
   have lx:=As3 c
   have ly:=As3 d
   rw [decide_eq_false (show ¬ x<0 by omega),decide_eq_false (show ¬ y<0 by omega)]
   unfold Co2
   simp only [AA,Gm2]
   generalize hM:max (W x.natAbs).length (W y.natAbs).length=M
   generalize x.natAbs=a at *
   generalize y.natAbs=b at *
   rw [wrU (by omega),Fv3 (by omega) (by omega),AA,Fv3 (by omega) (by omega),AA]
   have loop:=Cs0 (op:=fun p q=>p &&& q) (a:=a) (b:=b) (m:=M+1) (bd:=Bd0 (((W b).length:Nat):Int) (((W a).length:Nat):Int) (pw b (M+1))) (by omega) (fun i l hi hl hg=>by
    unfold Bd0
    dsimp only
    have f:=Am1 a i
    have g:=Am1 b i
    have j:dg a i &&& dg b i≤dg a i:=Nat.and_le_left
    rw [Gm2,hM,wrU (by omega),Ab0 (by rw [decide_eq_true_iff];omega),Ac1 0 (by omega),hg]
    simp only [AA,AE]
    rw [Ac1 0 (by unfold pw;rw [Aq8];omega),show (pw b (M+1)).getD i 0=((dg b i:Nat):Int) by unfold pw;rw [Dm6 (by omega),if_pos (by omega)]]
    simp only [AA]
    rw [Gx4 f g,Cz9,AG (by omega),wrU (by omega)]) (fun l=>by
    unfold Bd0
    dsimp only
    rw [Gm2,hM,wrU (by omega),Ab1 (by simp)])
   rw [loop,AA]
   have ha:a<4294967296^M:=AC (Ad2 a) (AD (by omega) (by omega))
   have hab:a &&& b<4294967296^M:=AY Nat.and_le_left ha
   have e:(List.range (M+1)).map (fun k=>((dg a k &&& dg b k:Nat):Int))=dl (M+1) (M+1) (a &&& b):=by
    unfold dl
    refine AX fun k hk=>?_
    rw [if_pos (List.mem_range.1 hk),Gp9]
   rw [e,Hd2 (Eu3 _ _ _) (by rw [Aq8];omega) (.inr (by rw [Aq8,BT,Dm6 (by omega),if_pos (by omega),Bh8 hab];decide)),AA]
   dsimp only
   rw [Fh3 (AC hab (AD (by omega) (by omega))),decide_eq_false (by omega),BD]
 · cases h
end Go.Eng
