/-
  Natural numbers of any length, as the document reckons with them (limbs, digits of 32 bits): Ei6 cut off, halves, limbs, over one digit, over a power of two; the right dyad of any dyad. No condition.
-/
import Derived.Test.YtlnelldekejadaaGreatDy2
import Derived.Test.YtlnelldekejadaaGreatDy5
set_option linter.all false
set_option maxRecDepth 100000
set_option maxHeartbeats 400000
set_option exponentiation.threshold 70000
open Go.IntKind (i64 u64)
open Option renaming bind_some→AA
open List renaming getD_eq_getElem?_getD→AB,take_of_length_le→AI,eq_nil_of_length_eq_zero→AL,getElem?_eq_getElem→AN,length_take→AO,append_assoc→AX,getElem?_eq_none→BA,mem_cons_self→BD,length_append→BE,take_append_drop→BL,mem_cons_of_mem→BM,getElem?_set_ne→BO,cons_append→BT,getElem_mem→BU,take_length→BV,length_set→BZ
open Nat renaming pow_le_pow_right→AC,div_div_eq_div_mul→AF,lt_of_lt_of_le→AG,pow_succ→AH,lt_or_ge→AJ,div_eq_of_lt→AK,min_eq_left→AQ,two_pow_pos→AR,lt_of_le_of_lt→AT,pow_add→AU,add_mul→AV,sub_zero→AW,zero_mul→AY,div_lt_iff_lt_mul→AZ,mod_eq_of_lt→BB,div_le_self→BC,mod_one→BF,mul_comm→BG,mod_lt→BH,div_add_mod→BI,mul_add_div→BJ,le_refl→BN,mul_assoc→BQ,mul_left_comm→BR,pow_zero→BS,mul_lt_mul''→BW,mul_add→BX,pow_pos→BY
open Int renaming tmod_eq_emod_of_nonneg→AD,tdiv_eq_ediv_of_nonneg→AE,toNat_natCast→AM,natCast_mul→AS,natCast_add→BK,neg_mul→BP
open Bool renaming not_false→AP
namespace Go.Eng
open Go
theorem Fg2 (l m:List Int):lv (l++m)=lv l+18446744073709551616^l.length*lv m:=by
 induction l with
 | nil=>simp [lv]
 | cons x l ih=>
   have e:∀ (x:Int) (l:List Int),lv (x::l)=x.toNat+18446744073709551616*lv l:=fun _ _=>rfl
   rw [BT,e,e,ih,List.length_cons,AH,BX,← BQ,BG 18446744073709551616 (_^_)]
   omega
theorem Es0 {l:List Int} (h:∀ j,j<l.length→l.getD j 0=0):lv l=0:=by
 induction l with
 | nil=>rfl
 | cons x l ih=>
   have a:=h 0 (by simp)
   have a:x=0:=by simpa using a
   have:=ih fun j hj=>by
    have:=h (j+1) (by simpa using hj)
    simpa using this
   unfold lv
   rw [this,a];rfl
theorem Ld.take {l:List Int} (h:Ld l) (n:Nat):Ld (l.take n):=fun y hy=>h y (List.mem_of_mem_take hy)
theorem Gg7 {l:List Int} {k:Nat} (h:Ld l) (hk:k≤l.length) (b:∀ j,k≤j→j<l.length→l.getD j 0=0) (a:k=0∨l.getD (k-1) 0≠0):l.take k=LW (lv l):=by
 have e:lv l=lv (l.take k):=by
  conv=>lhs;rw [← BL k l]
  rw [Fg2,Es0 (l:=l.drop k) fun j hj=>by
   have hj:j<l.length-k:=by simpa using hj
   have:=b (k+j) (by omega) (by omega)
   simpa [AB] using this]
  simp
 rw [e]
 refine Gl7 (h.take k) ?_
 rcases a with a | a
 · left;subst a;rfl
 · by_cases hz:k=0
   · left;subst hz;rfl
   · right
     rw [AO,AQ hk]
     rw [AB,List.getElem?_take_of_lt (by omega),← AB]
     exact a
theorem Du8 {l:List Int} (hl:l.length≤1099511627776):∃ n:Nat,n≤l.length∧Af5 (Ah8 l) FU ((l.length:Nat):Int)=some (n:Int)∧(∀ j,n≤j→j<l.length→l.getD j 0=0)∧(n=0∨l.getD (n-1) 0≠0):=by
 have ex:∃ n:Nat,n≤l.length∧(∀ j,n≤j→j<l.length→l.getD j 0=0)∧(n=0∨l.getD (n-1) 0≠0):=by
  rcases Ar7 (fun i=>l.getD (l.length-1-i) 0 != 0) l.length with h | ⟨i,hi,a,d⟩
  · refine ⟨0,by omega,fun j _ hj=>?_,.inl rfl⟩
    have:=h (l.length-1-j) (by omega)
    rw [show l.length-1-(l.length-1-j)=j by omega] at this
    simpa using this
  · refine ⟨l.length-i,by omega,fun j hj hjl=>?_,.inr ?_⟩
    · have:=d (l.length-1-j) (by omega)
      rw [show l.length-1-(l.length-1-j)=j by omega] at this
      simpa using this
    · rw [show l.length-i-1=l.length-1-i by omega]
      simpa using a
 obtain ⟨n,hn,c,a⟩:=ex
 refine ⟨n,hn,?_,c,a⟩
 have loop:=Ac7 (b:=Ah8 l) (fun i=>((l.length-i:Nat):Int)) (o:=(n:Int)) (l.length-n) (by rw [Af4];omega) (fun i hi=>by
  unfold Ah8
  dsimp only
  have e:i64.wrap (((l.length-i:Nat):Int)-1)=((l.length-(i+1):Nat):Int):=by rw [wrI (by omega) (by omega)];omega
  rw [Ab0 (by simp;omega),e,Ac1 0 (by omega),AA,c _ (by omega) (by omega)]
  rfl) (by
  unfold Ah8
  dsimp only
  rw [show l.length-(l.length-n)=n by omega]
  rcases a with a | a
  · subst a;rfl
  · by_cases hz:n=0
    · subst hz;rfl
    · have e:i64.wrap (((n:Nat):Int)-1)=((n-1:Nat):Int):=by rw [wrI (by omega) (by omega)];omega
      rw [Ab0 (by simp;omega),e,Ac1 0 (by omega),AA,Ab1 (by simpa using a)])
 rw [AW] at loop
 exact loop
theorem Bh2 {l:List Int} (h:Ld l) (hl:l.length≤4294967296):Ag3 l=some (LW (lv l)):=by
 obtain ⟨n,hn,ht,a,b⟩:=Du8 (l:=l) (by omega)
 unfold Ag3
 rw [AA,ht,AA,show (0:Int)=((0:Nat):Int) from rfl,Cf6 (by omega) hn,AA]
 have:=Gg7 h hn a b
 rw [List.drop_zero,AW,this,Bb3,AA,List.nil_append]
 rw [← this,AO,List.length_nil];omega
theorem Hc8 (l:List Int):Bp8 l=Ah8 l:=rfl
theorem Ef3 {l:List Int} (h:Wd l) (hl:l.length≤1099511627776) {β:Type} (f:List Int→Option β):((Be2 l).bind fun t=>(Cd8 l 0 t).bind f)=f (W (wv l)):=by
 obtain ⟨n,hn,ht,a,b⟩:=Du8 (l:=l) hl
 unfold Be2
 rw [AA,Hc8,ht,AA,show (0:Int)=((0:Nat):Int) from rfl,Cf6 (by omega) hn,AA,AA,Cf6 (by omega) hn,AA]
 have:=Ga2 h hn a b
 rw [← this]
 simp
def hvs:List Int→List Int
 | []=>[]
 | x::l=>(x%4294967296)::(x/4294967296)::hvs l
theorem Ex2 (l m:List Int):hvs (l++m)=hvs l++hvs m:=by
 induction l with
 | nil=>rfl
 | cons x l ih=>simp [hvs,ih]
theorem Fh0 (l:List Int):(hvs l).length=2*l.length:=by
 induction l with
 | nil=>rfl
 | cons x l ih=>simp [hvs,ih];omega
theorem Gp6 {l:List Int} (h:Ld l):Wd (hvs l):=by
 induction l with
 | nil=>exact Ds3
 | cons x l ih=>
   have hx:=h x (BD ..)
   exact Bu9 (by omega) (by omega) (Bu9 (by omega) (by omega) (ih fun y hy=>h y (BM _ hy)))
theorem Gp4 {l:List Int} (h:Ld l):wv (hvs l)=lv l:=by
 induction l with
 | nil=>rfl
 | cons x l ih=>
   have hx:=h x (BD ..)
   have:=ih fun y hy=>h y (BM _ hy)
   simp only [hvs,wv,lv,this];omega
theorem Bq0 {l:List Int} {i:Nat} (h:i<l.length):l.take (i+1)=l.take i ++ [l.getD i 0]:=by
 rw [List.take_add_one,AB,AN h];rfl
theorem Bf4 {l:List Int} (h:Ld l) (hl:l.length≤1073741824):Ag8 l=some (W (lv l)):=by
 have loop:=Ac7 (b:=Al4 l) (fun i=>(((i:Nat):Int),hvs (l.take i))) (o:=hvs l) l.length (by rw [Af4];omega) (fun i hi=>by
  have hx:=h (l.getD i 0) (by rw [AB,AN hi];exact BU _)
  unfold Al4
  simp only [AA]
  rw [Ab0 (by simp;omega),Ac1 0 hi]
  simp only [AA]
  rw [Bb3 (by rw [Fh0];simp;omega),AA,Bq0 hi,Ex2,wrU (by omega)]
  generalize l.getD i 0=x at *
  have a:x.tmod 4294967296=x%4294967296:=AD hx.1
  have c:u64.wrap (x.tdiv 4294967296)=x/4294967296:=by rw [AE hx.1,w64];omega
  rw [a,c];rfl) (by
  unfold Al4
  simp only [AA]
  rw [Ab1 (by simp),BV])
 have loop:Af5 (Al4 l) FU (0,[])=some (hvs l):=loop
 unfold Ag8
 rw [loop,AA,Ef3 (Gp6 h) (by rw [Fh0];omega),Gp4 h]
def prs:List Int→List Int
 | x::y::r=>(x+4294967296*y)::prs r
 | [x]=>[x]
 | []=>[]
theorem Ce2:∀ (j:Nat) {l m:List Int},l.length=2*j→prs (l++m)=prs l++prs m
 | 0,l,m,h=>by
   have:l = []:=AL (by omega)
   subst this;rfl
 | j+1,x::y::r,m,h=>by
   simp only [BT,prs]
   rw [Ce2 j (l:=r) (by simp at h;omega)]
 | j+1,[x],m,h=>by simp at h;omega
 | j+1,[],m,h=>by simp at h
theorem Eg6:∀ (l:List Int),(prs l).length≤l.length
 | x::y::r=>by have:=Eg6 r;simp [prs];omega
 | [x]=>by simp [prs]
 | []=>by simp [prs]
theorem Ga4:∀ {l:List Int},Wd l→Ld (prs l)
 | x::y::r,h=>by
   have a:=Bg4 h
   have b:=Bg4 (Bc9 h)
   have:=Ga4 (Bc9 (Bc9 h))
   intro z hz
   simp only [prs,List.mem_cons] at hz
   rcases hz with rfl | hz
   · omega
   · exact this z hz
 | [x],h=>by
   have a:=Bg4 h
   intro z hz
   simp only [prs,List.mem_singleton] at hz
   subst hz;omega
 | [],_=>fun z hz=>by cases hz
theorem Fy1:∀ {l:List Int},Wd l→lv (prs l)=wv l
 | x::y::r,h=>by
   have a:=Bg4 h
   have b:=Bg4 (Bc9 h)
   have:=Fy1 (Bc9 (Bc9 h))
   simp only [prs,lv,wv,this];omega
 | [x],h=>by simp [prs,lv,wv]
 | [],_=>rfl
theorem Cb5 {d:List Int} (h:Wd d) (hl:d.length≤4294967296):An2 d=some (LW (wv d)):=by
 have loop:=Ac7 (b:=Ao4 d) (fun j=>(((2*j:Nat):Int),prs (d.take (2*j)))) (o:=prs d) ((d.length+1)/2) (by rw [Af4];omega) (fun j hj=>by
  have hx:=Cg6 h (2*j)
  have hy:=Cg6 h (2*j+1)
  have hlen:=Eg6 (d.take (2*j))
  rw [AO] at hlen
  have a:(d.take (2*j)).length=2*j:=by rw [AO];omega
  have c:i64.wrap (((2*j:Nat):Int)+2)=((2*(j+1):Nat):Int):=by rw [wrI (by omega) (by omega)];omega
  unfold Ao4
  simp only [AA]
  rw [Ab0 (by simp;omega),Ac1 0 (by omega),AA,wrU (by omega),c]
  by_cases hc:2*j+1<d.length
  · have e:d.take (2*(j+1))=d.take (2*j) ++ [d.getD (2*j) 0,d.getD (2*j+1) 0]:=by
     rw [show 2*(j+1)=2*j+1+1 by omega,Bq0 hc,Bq0 (by omega),AX];rfl
    rw [Ab0 (by simp;omega),Ac1 0 hc]
    simp only [AA]
    rw [Bb3 (by simp;omega),AA,e,Ce2 j a]
    have ew:u64.wrap (d.getD (2*j) 0+u64.wrap (4294967296*d.getD (2*j+1) 0))=d.getD (2*j) 0+4294967296*d.getD (2*j+1) 0:=by
     rw [w64,w64];omega
    rw [ew];rfl
  · have e:d.take (2*(j+1))=d.take (2*j) ++ [d.getD (2*j) 0]:=by
     rw [← Bq0 (by omega),AI (by omega),AI (by omega)]
    rw [Ab1 (by simp;omega)]
    simp only [AA]
    rw [Bb3 (by simp;omega),AA,e,Ce2 j a];rfl) (by
  unfold Ao4
  simp only [AA]
  rw [Ab1 (by simp;omega),AI (by omega)])
 have loop:Af5 (Ao4 d) FU (0,[])=some (prs d):=loop
 have hlen:=Eg6 d
 unfold An2
 rw [loop,AA,Bh2 (Ga4 h) (by omega),Fy1 h];rfl
def qds (q:Nat):List Int→List Int×Nat
 | []=>([],0)
 | x::l=>(((((qds q l).2*4294967296+x.toNat)/q:Nat):Int)::(qds q l).1,((qds q l).2*4294967296+x.toNat)%q)
theorem Dk5 {q:Nat} (hq:0<q):∀ {l:List Int},Wd l→wv (qds q l).1=wv l/q∧(qds q l).2=wv l%q∧Wd (qds q l).1∧(qds q l).1.length=l.length
 | [],_=>⟨by simp [qds,wv],by simp [qds,wv],Ds3,rfl⟩
 | x::l,h=>by
   obtain ⟨b,a,c,d⟩:=Dk5 hq (Bc9 h)
   have hx:=Bg4 h
   have hr:wv l%q<q:=BH _ hq
   have hdm:=BI (wv l) q
   have hd:((wv l%q)*4294967296+x.toNat)/q<4294967296:=by
    rw [AZ hq]
    have:(wv l%q+1)*4294967296≤q*4294967296:=Nat.mul_le_mul_right _ hr
    omega
   have e:wv (x::l)=q*(4294967296*(wv l/q))+((wv l%q)*4294967296+x.toNat):=by
    show x.toNat+4294967296*wv l=_
    conv=>lhs;rw [← hdm]
    rw [BX,BR];omega
   refine ⟨?_,?_,?_,by simp [qds,d]⟩
   · rw [e,BJ hq]
     simp only [qds,wv,b,a,AM];omega
   · rw [e,Nat.mul_add_mod]
     simp only [qds,a]
   · simp only [qds,a]
     generalize (wv l%q*4294967296+x.toNat)/q=y at hd
     exact Bu9 (by omega) (by omega) c
theorem Gc7 {k:Nat} (v:Int) (l:List Int):(List.replicate (k+1) (0:Int)++l).set k v=List.replicate k 0++v::l:=by
 rw [List.replicate_succ',AX,List.set_append_right _ _ (by simp)]
 simp
theorem Ge2 {x:List Int} (h:Wd x) {q:Nat} (hq:0<q) (e:q≤4294967296) (hl:x.length≤1099511627776):Bc8 x (q:Int)=some (W (wv x/q),((wv x%q:Nat):Int)):=by
 have hnz:nz (q:Int)=some ():=by unfold nz;rw [if_pos (by omega)]
 have loop:=Ac7 (b:=Ao3 x (q:Int)) (fun j=>(((qds q (x.drop (x.length-j))).2:Int),((x.length-j:Nat):Int)-1,List.replicate (x.length-j) 0++(qds q (x.drop (x.length-j))).1)) (o:=(((qds q x).2:Int),(qds q x).1)) x.length (by rw [Af4];omega) (fun j hj=>by
  obtain ⟨k,hk⟩:∃ k,x.length-j=k+1:=⟨x.length-j-1,by omega⟩
  have hk':x.length-(j+1)=k:=by omega
  have hkx:k<x.length:=by omega
  have hxk:=Cg6 h k
  have ed:x.drop k=x.getD k 0::x.drop (k+1):=by
   rw [List.drop_eq_getElem_cons hkx,AB,AN hkx];rfl
  have hsp:=Dk5 hq (Fh8 h (k+1))
  have hr:(qds q (x.drop (k+1))).2<q:=by rw [hsp.2.1];exact BH _ hq
  rw [hk,hk',ed]
  simp only [qds]
  generalize qds q (x.drop (k+1))=Q at *
  generalize hv:x.getD k 0=v at *
  have es:u64.wrap (u64.wrap (((Q.2:Nat):Int)*4294967296)+v)=((Q.2*4294967296+v.toNat:Nat):Int):=by
   rw [w64,w64];omega
  have a:((k+1:Nat):Int)-1=(k:Int):=by omega
  unfold Ao3
  dsimp only
  rw [a,Ab0 (by simp),Ac1 0 hkx,AA,hnz,AA,Ac1 0 (by simp;omega),AA,AA,AA,hv,es,AM,Gc7]
  have c:u64.wrap (((Q.2*4294967296+v.toNat:Nat):Int).tdiv (q:Int))=(((Q.2*4294967296+v.toNat)/q:Nat):Int):=by
   rw [AE (by omega),← Int.natCast_ediv,Ap1]
   exact AT (BC _ _) (by omega)
  have d:((Q.2*4294967296+v.toNat:Nat):Int).tmod (q:Int)=(((Q.2*4294967296+v.toNat)%q:Nat):Int):=by
   rw [AD (by omega),← Int.natCast_emod]
  rw [c,d,wrI (n:=(k:Int)-1) (by omega) (by omega)]) (by
  unfold Ao3
  dsimp only
  rw [Ab1 (by simp)]
  simp)
 have loop:Af5 (Ao3 x (q:Int)) FU (0,((x.length:Nat):Int)-1,List.replicate x.length 0)=some (((qds q x).2:Int),(qds q x).1):=by
  rw [AW,List.drop_length] at loop
  simpa [qds] using loop
 have hsp:=Dk5 hq h
 unfold Bc8
 rw [AA,Bb0 hl,AA,AA,wrI (by omega) (by omega),loop,AA]
 dsimp only
 rw [Ef3 hsp.2.2.1 (by rw [hsp.2.2.2];exact hl),hsp.1,hsp.2.1]
theorem Dy1 {b:Int×Int→Option ((Int×Int)⊕Int)} {r:Nat} (hr:r<32) (hb:∀ a i:Int,b (a,i)=cond (decide (i<(r:Int))) (some (.inl ((u64.wrap (2*a)),(i64.wrap (i+1))))) (some (.inr a))):Af5 b FU (1,0)=some ((2^r:Nat):Int):=
 Ac7 (b:=b) (fun i=>(((2^i:Nat):Int),((i:Nat):Int))) r (by rw [Af4];omega) (fun i hi=>by
  have hp:2^(i+1)≤2^32:=AC (by omega) (by omega)
  have e:(2:Int)*((2^i:Nat):Int)=((2^(i+1):Nat):Int):=by rw [AH];omega
  have c:(2:Nat)^32=4294967296:=rfl
  rw [hb,Ab0 (by simp;omega),e,Ap1 (by omega),wrU (by omega)]) (by rw [hb,Ab1 (by simp)])
theorem q32 {n:Nat} (hn:n<9223372036854775808):(n:Int).tmod 32=((n%32:Nat):Int)∧i64.wrap ((n:Int).tdiv 32)=((n/32:Nat):Int):=by
 refine ⟨by rw [AD (by omega)];omega,?_⟩
 rw [AE (by omega),wrI (by omega) (by omega)];omega
theorem Gk0 (l:List Int) {x:Int} (hx:0≤x):wv (l ++ [x])≠0↔wv l≠0∨x≠0:=by
 rw [Cc1]
 have hp:=Ac5 l.length
 have e:wv [x]=x.toNat:=by simp [wv]
 rw [e]
 generalize 4294967296^l.length=P at *
 constructor
 · intro h
   by_cases c:x=0
   · subst c;left;simpa using h
   · exact .inr c
 · rintro (h | h)
   · omega
   · have:0<P*x.toNat:=Nat.mul_pos hp (by omega)
     omega
theorem Fd6 {d:List Int} {n:Nat} (hd:Wd d) (hl:d.length≤1099511627776) (hn:n<9223372036854775808):Af5 (Aj6 (n:Int) d) FU (false,0)=some (decide (wv (d.take (n/32))≠0)):=by
 obtain ⟨j,f⟩:=q32 hn
 have loop:=Ac7 (b:=Aj6 (n:Int) d) (fun i=>(decide (wv (d.take i)≠0),((i:Nat):Int))) (o:=decide (wv (d.take (n/32))≠0)) (min (n/32) d.length) (by rw [Af4];omega) (fun i hi=>by
  have hid:i<d.length:=by omega
  have hx:=Cg6 hd i
  unfold Aj6
  simp only [AA]
  have e:=Gk0 (d.take i) hx.1
  rw [f,Ab0 (by simp;omega),Ab0 (by simp;omega),wrU (by omega),Bq0 hid]
  by_cases c:wv (d.take i)=0
  · have e':wv (d.take i ++ [d.getD i 0])≠0↔d.getD i 0≠0:=e.trans ⟨fun h=>h.resolve_left fun k=>k c,.inr⟩
    rw [Ab0 (by simp [c]),Ac1 0 hid,AA]
    have g:(d.getD i 0 != 0)=decide (wv (d.take i ++ [d.getD i 0])≠0):=by
     by_cases a:d.getD i 0=0
     · rw [decide_eq_false fun k=>e'.1 k a,a];rfl
     · rw [decide_eq_true (e'.2 a)];exact bne_iff_ne.2 a
    rw [g]
  · rw [Ab1 (by simp [c]),decide_eq_true (e.2 (.inl c))]) (by
  unfold Aj6
  simp only [AA]
  rw [f]
  rcases AJ d.length (n/32) with c | c
  · rw [Nat.min_eq_right (by omega),Ab0 (by simp;omega),Ab1 (by simp),BV,AI (by omega)]
  · rw [AQ c,Ab1 (by simp)])
 simpa [wv] using loop
theorem Bf8 (k:Nat):(4294967296:Nat)^k=2^(32*k):=by rw [show (4294967296:Nat)=2^32 from rfl,← Nat.pow_mul]
theorem Fn5 {l:List Int} {n:Nat} (h:Ld l) (hl:l.length≤1073741824) (hn:n<9223372036854775808):Av2 l (n:Int)=some (LW (lv l/2^n),decide (lv l%2^n≠0)):=by
 obtain ⟨j,k⟩:=q32 hn
 have hlt:=Bl1 h
 have hWl:(W (lv l)).length≤2*l.length:=An5 (by rw [Bf8];refine AG hlt (AC (by omega) (by omega)))
 have hWd:=Bk2 (lv l)
 generalize hA:lv l=A at *
 unfold Av2
 rw [Bf4 h hl,hA,AA,Fd6 hWd (by omega) hn,AA,AA,k]
 have hAl:=Ad2 A
 by_cases c:(W A).length≤n/32
 · have g:A<2^n:=by
    rw [Bf8] at hAl
    exact AG hAl (AC (by omega) (by omega))
   rw [Ab0 (by rw [decide_eq_true_eq];omega),AI c,Bf0,AK g,Am2,BB g]
 · have hr:n%32<32:=BH _ (by omega)
   have hdl:wv ((W A).drop (n/32))=A/4294967296^(n/32)∧wv ((W A).take (n/32))=A%4294967296^(n/32):=by
    have d:wv ((W A).take (n/32))<4294967296^(n/32):=by
     have:=Cm0 (Fn4 hWd (n/32))
     rwa [AO,AQ (by omega)] at this
    have f:A=wv ((W A).take (n/32))+4294967296^(n/32)*wv ((W A).drop (n/32)):=by
     have:=Cc1 ((W A).take (n/32)) ((W A).drop (n/32))
     rw [BL,Bf0,AO,AQ (by omega)] at this
     exact this
    have hp:=Ac5 (n/32)
    generalize wv ((W A).take (n/32))=a at *
    generalize wv ((W A).drop (n/32))=b at *
    generalize 4294967296^(n/32)=P at *
    rw [f,Nat.add_comm]
    exact ⟨by rw [BJ hp,AK d];omega,by rw [Nat.mul_add_mod,BB d]⟩
   rw [Ab1 (by rw [decide_eq_false_iff_not];omega),Dy1 (b:=As7 (n:Int)) hr (fun a i=>by unfold As7;rw [j]),AA,AA,Cf6 (by omega) (by omega),AA]
   rw [AI (by simp),Ge2 (Fh8 hWd _) (AR _) (by
    have:=AC (n:=2) (by omega) (show n%32≤32 by omega)
    exact this) (by simp;omega),AA]
   dsimp only
   have hm:=Bc0 (show wv ((W A).drop (n/32))/2^(n%32)≤A from Nat.le_trans (BC _ _) (by rw [hdl.1];exact BC _ _))
   rw [Cb5 (Bk2 _) (by omega),Bf0,AA,hdl.1,hdl.2]
   have e:(2:Nat)^n=4294967296^(n/32)*2^(n%32):=by
    rw [Bf8,← AU];congr 1;omega
   rw [e,← AF,Nat.mod_mul]
   have hp:=Ac5 (n/32)
   generalize 4294967296^(n/32)=P at *
   generalize A%P=a
   generalize A/P%2^(n%32)=b
   by_cases ca:a=0
   · subst ca
     have:decide (0+P*b≠0)=(((b:Nat):Int) != 0):=by
      by_cases cb:b=0
      · subst cb;simp
      · have d:P*b≠0:=Nat.mul_ne_zero (by omega) cb
        have f:((b:Int) != 0)=true:=by simpa using cb
        rw [f,decide_eq_true];omega
     rw [this];rfl
   · rw [decide_eq_true ca,decide_eq_true (show a+P*b≠0 by omega)];rfl
theorem Eh3 (n k:Nat):(LW n).getD k 0=((n/18446744073709551616^k%18446744073709551616:Nat):Int):=by
 induction k generalizing n with
 | zero=>
   by_cases h:n=0
   · subst h;rw [Am2];rfl
   · rw [Bb1 h];simp
 | succ k ih=>
   by_cases h:n=0
   · subst h;rw [Am2];simp
   · rw [Bb1 h,List.getD_cons_succ,ih,AF,AH,BG]
theorem Cd0 (k:Nat):(18446744073709551616:Nat)^k=2^(64*k):=by rw [show (18446744073709551616:Nat)=2^64 from rfl,← Nat.pow_mul]
theorem Gq4 (n i:Nat):n/18446744073709551616^(i/64)%18446744073709551616/2^(i%64)%2=n/2^i%2:=by
 have e:(2:Nat)^i=18446744073709551616^(i/64)*2^(i%64):=by
  rw [Cd0,← AU];congr 1;omega
 have a:(18446744073709551616:Nat)=2^(i%64)*(2*2^(63-i%64)):=by
  rw [← BQ,← AH,← AU]
  have:(i%64).succ+(63-i%64)=64:=by omega
  rw [this]
 rw [e,← AF]
 generalize n/18446744073709551616^(i/64)=m
 conv=>lhs;rw [a]
 rw [Nat.mod_mul_right_div_self,Nat.mod_mul_right_mod]
theorem Gd2 {m:Nat} (k:Nat):k<(LW m).length↔64*k<blN m:=by
 constructor
 · intro h
   rcases AJ (64*k) (blN m) with g | g
   · exact g
   · have:=Bn1 (Ap3.1 g);omega
 · intro h
   rcases AJ k (LW m).length with g | g
   · exact g
   · have:=Ap3.2 (AG (Es1 m) (AC (n:=2) (by omega) (show 64*(LW m).length≤64*k by omega)));omega
end Go.Eng
/-
  The right dyad of any dyad, as the document makes it. No condition.
-/
namespace Go.Eng
open Go
theorem Fi9 {n:Nat} (a:n≠0) (hl:(LW n).length≤1073741824):Af5 (Ar9 (LW n)) FU 0=some ((tzN n:Nat):Int):=by
 obtain ⟨j,k,d⟩:=Bw7 a
 have hbl:=En0 a
 have hb:blN n≤64*(LW n).length:=Ap3.2 (Es1 n)
 have step:∀ i:Nat,i≤tzN n→Ar9 (LW n) ((i:Nat):Int)=cond (decide (n/2^i%2=0)) (some (.inl ((i+1:Nat):Int))) (some (.inr ((i:Nat):Int))):=fun i hi=>by
  unfold Ar9
  dsimp only
  have e:i64.wrap ((i:Int).tdiv 64)=((i/64:Nat):Int):=by
   rw [AE (by omega),wrI (by omega) (by omega)];omega
  have f:u64.wrap ((i:Int).tmod 64)=((i%64:Nat):Int):=by
   rw [AD (by omega),w64];omega
  have g:min ((i%64:Nat):Int).toNat u64.bits=i%64:=by
   rw [AM];exact AQ (show i%64≤64 by omega)
  rw [e,f,Ac1 0 (by omega),AA,Fv0,AA,g,Eh3,fdn]
  have h:(((n/18446744073709551616^(i/64)%18446744073709551616/2^(i%64):Nat):Int).tmod 2)=((n/2^i%2:Nat):Int):=by
   rw [← Gq4]
   generalize n/18446744073709551616^(i/64)%18446744073709551616/2^(i%64)=y
   rw [AD (by omega)];omega
  rw [h,wrU (by omega)]
  congr 1
  by_cases c:n/2^i%2=0
  · rw [c];rfl
  · rw [decide_eq_false c,beq_eq_false_iff_ne];omega
 exact Ac7 (b:=Ar9 (LW n)) (fun i=>((i:Nat):Int)) (tzN n) (by rw [Af4];omega) (fun i hi=>by
  rw [step i (by omega),decide_eq_true (d i hi),cT]) (by rw [step _ (by omega),decide_eq_false (by omega),cF])
theorem Fa1 {s:Bool} {l:List Int} {e:Int} (h:Ld l) (hl:l.length≤1073741824):Bh5 s l e=some (Bm6 (zD s l) e):=by
 have hza:=Cy1 s l
 have hLl:=Bn1 (Bl1 h)
 unfold Bh5
 rw [Bh2 h (by omega),AA,AA]
 unfold Bm6
 by_cases a:lv l=0
 · rw [a,Am2,if_pos (by omega)];rfl
 · have hlen:(LW (lv l)).length≠0:=fun c=>a (Ct8.1 (AL c))
   have hbl:=En0 a
   have hb:blN (lv l)≤64*l.length:=Ap3.2 (Bl1 h)
   have hs:decide (zD s l<0)=s:=by
    unfold zD sgN
    cases s<;>simp<;>omega
   rw [Ab1 (by simpa using hlen),Fi9 a (by omega),AA,Fn5 (Ba7 _) (by omega) (by omega),AA,At7,if_neg (show zD s l≠0 by omega),hza,hs]
   dsimp only
   unfold Fp4
   generalize tzN (lv l)=t at *
   generalize lv l/2^t=m at *
   rw [AA,wrI (n := -65536-(t:Int)) (by omega) (by omega)]
   have g:decide (((LW m).length:Int)>256)=decide (16384<blN m):=by
    have:=Gd2 (m:=m) 256
    apply decide_eq_decide.2
    omega
   rw [g]
   by_cases b:16384<blN m
   · rw [if_pos (.inr (.inr b)),decide_eq_true b];rfl
   · rw [decide_eq_false b,AP,cT]
     by_cases d:e>65536
     · rw [if_pos (by omega),decide_eq_true d];rfl
     · rw [decide_eq_false d,AP,cT]
       by_cases f:e < -65536-(t:Int)
       · rw [if_pos (by omega),decide_eq_true f];rfl
       · rw [decide_eq_false f,AP,cT,wrI (n:=e+(t:Int)) (by omega) (by omega),AA]
         by_cases i:e+(t:Int)>65536
         · rw [if_pos (by omega),decide_eq_true i];rfl
         · rw [if_neg (by omega),decide_eq_false i];rfl
end Go.Eng
/-
  The right dyad of a number, as the document makes it. No condition.
-/
namespace Go.Eng
open Go
theorem Fd5 {s:Bool} {l:List Int} {e:Int} (h:Ld l) (hl:l.length≤1073741824):Au3 s l e=some (Bm6 (zD s l) e):=by
 unfold Au3
 rw [Fa1 h hl];rfl
end Go.Eng
/-
  Which dyads are right, as the document tells it; the number of a dyad. No condition.
-/
namespace Go.Eng
open Go
theorem Ef9 (s:Bool) {l:List Int} (e:Int) (h:Ld l):Aq9 s l e=Ag6 s l e:=by
 unfold Aq9 Ag6
 cases l with
 | nil=>rfl
 | cons x r=>
   have hx:=h x (BD ..)
   simp only [AA]
   have a:atI (x::r) 0=some x:=rfl
   rw [a]
   simp only [AA]
   rw [Gt3 hx.1 hx.2,AD hx.1]
theorem Fk7 {s:Bool} {l:List Int} {e:Int} (h:Ld l) (hl:l.length≤4294967296):Ar8 s l e=some (s,LW (lv l),e):=by
 unfold Ar8
 rw [Bh2 h hl];rfl
end Go.Eng
/-
  Natural numbers of any length, as the document reckons with them: how many bits, sums, times a power of two. No condition.
-/
namespace Go.Eng
open Go
theorem Gh8 {a:Nat} (h:a≠0):(LW a).length≠0∧(LW a).getD ((LW a).length-1) 0=((a/18446744073709551616^((LW a).length-1):Nat):Int)∧18446744073709551616^((LW a).length-1)≤a:=by
 have b:(LW a).length≠0:=fun c=>h (Ct8.1 (AL c))
 have hlt:=Es1 a
 rw [← Cd0] at hlt
 have hpow:(18446744073709551616:Nat)^(LW a).length=18446744073709551616^((LW a).length-1)*18446744073709551616:=by rw [← AH];congr 1;omega
 have htop:=Ga8 h
 have hg:=Eh3 a ((LW a).length-1)
 have hp:0<18446744073709551616^((LW a).length-1):=BY (by omega)
 have d:a/18446744073709551616^((LW a).length-1)<18446744073709551616:=by
  rw [AZ hp,BG,← hpow];exact hlt
 rw [BB d] at hg
 refine ⟨b,hg,?_⟩
 rcases AJ a (18446744073709551616^((LW a).length-1)) with c | c
 · rw [AK c] at hg
   exact absurd hg htop
 · exact c
theorem Fm5 {c t:Nat} (ht:t<18446744073709551616) (hc:c<4611686018427387904):Af5 Ak0 FU ((c:Int),(t:Int))=some ((c+blN t:Nat):Int):=by
 have hb:blN t≤64:=Ap3.2 ht
 have:=Ac7 (b:=Ak0) (fun i=>(((c+i:Nat):Int),((t/2^i:Nat):Int))) (o:=((c+blN t:Nat):Int)) (blN t) (by rw [Af4];omega) (fun i hi=>by
  have hpos:0<t/2^i:=by
   have a:2^i≤t:=by
    rcases AJ t (2^i) with g | g
    · have:=Ap3.2 g;omega
    · exact g
   exact Nat.div_pos a (AR i)
  unfold Ak0
  dsimp only
  have hle:t/2^i≤t:=BC _ _
  have e:u64.wrap (((t/2^i:Nat):Int).tdiv 2)=((t/2^(i+1):Nat):Int):=by
   rw [AH,← AF]
   generalize t/2^i=y at *
   rw [AE (by omega),w64];omega
  rw [Ab0 (by rw [decide_eq_true_eq];omega),e,wrU (by omega)];rfl) (by
  unfold Ak0
  dsimp only
  rw [AK (Ap3.1 (BN _))];rfl)
 simpa using this
theorem Cs2 {l:List Int} (h:Ld l) (hl:l.length≤1073741824):An6 l=some ((blN (lv l):Nat):Int):=by
 have hLl:=Bn1 (Bl1 h)
 unfold An6
 rw [Bh2 h (by omega)]
 simp only [AA]
 by_cases b:lv l=0
 · rw [b,Am2];rfl
 · obtain ⟨g,a,d⟩:=Gh8 b
   have hb:=Fj9 (lv l) (64*((LW (lv l)).length-1)) (by rw [← Cd0];exact d)
   have hd:lv l/18446744073709551616^((LW (lv l)).length-1)<18446744073709551616:=by
    have:=(Ba7 (lv l)) ((LW (lv l)).getD ((LW (lv l)).length-1) 0) (by rw [AB,AN (by omega)];exact BU _)
    rw [a] at this;omega
   rw [← Cd0] at hb
   generalize (LW (lv l)).length=k at *
   rw [Ab1 (by rw [beq_eq_false_iff_ne];omega)]
   have e:i64.wrap ((k:Int)-1)=((k-1:Nat):Int):=by rw [wrI (by omega) (by omega)];omega
   have f:i64.wrap (64*((k-1:Nat):Int))=((64*(k-1):Nat):Int):=by rw [wrI (by omega) (by omega)];omega
   rw [e,f]
   rw [Ac1 0 (by
    have:=hLl
    rcases AJ (k-1) (LW (lv l)).length with c | c
    · exact c
    · rw [AB,BA c] at a
      have hz:lv l/18446744073709551616^(k-1)=0:=by
       have:(none:Option Int).getD 0=0:=rfl
       rw [this] at a;omega
      have:0<lv l/18446744073709551616^(k-1):=Nat.div_pos d (BY (by omega))
      omega),a,AA,Fm5 hd (by omega),AA]
   congr 2;omega
theorem Df4 {s:Bool} {l:List Int} {e:Int} (h:Ld l) (hl:l.length≤1073741824):Af9 s l e=some (decide (lv l=0)):=by
 unfold Af9
 rw [Cs2 h hl,AA]
 congr 1
 by_cases c:lv l=0
 · rw [c];rfl
 · have:blN (lv l)≠0:=by unfold blN;rw [if_neg c];omega
   rw [decide_eq_false c,beq_eq_false_iff_ne];omega
theorem Fz9 {s:Bool} {l:List Int} {e:Int} (h:Ld l) (hl:l.length≤1073741824) (a : -4611686018427387904≤e) (b:e≤4611686018427387904):Ak2 s l e=some (e+(blN (lv l):Nat)):=by
 have hb:blN (lv l)≤64*l.length:=Ap3.2 (Bl1 h)
 unfold Ak2
 rw [Cs2 h hl,AA,wrI (by omega) (by omega)]
theorem Ei5 {l:List Int} (h:Wd l) (i:Nat):At6 l (i:Int)=some ((dg (wv l) i:Nat):Int):=by
 unfold At6
 rw [AA,Gi9 h]
 by_cases c:i<l.length
 · rw [Ab0 (by rw [decide_eq_true_eq];omega),Ac1 0 c];rfl
 · rw [Ab1 (by rw [decide_eq_false_iff_not];omega),AB,BA (by omega)];rfl
def Cz7 (V k:Nat):List Int:=(List.range k).map fun j=>((dg V j:Nat):Int)
theorem Bb5 (V k:Nat):(Cz7 V k).length=k:=by simp [Cz7]
theorem Cc3 (V k:Nat):Cz7 V k ++ [((dg V k:Nat):Int)]=Cz7 V (k+1):=Ay4
theorem Dj0 (V k:Nat):Wd (Cz7 V k):=by
 intro x hx
 obtain ⟨j,_,rfl⟩:=List.mem_map.1 hx
 have:=Am1 V j
 omega
theorem Ed5 {V k:Nat} (h:V<4294967296^k):wv (Cz7 V k)=V:=Gu0 (Dj0 V k) (by rw [Bb5];exact h) fun j hj=>by
 rw [Bb5] at hj
 unfold Cz7
 simp [AB,hj]
theorem Fp5 {l m:List Int} (h:Ld l) (k:Ld m) (hl:l.length≤536870912) (hm:m.length≤536870912):Aq1 l m=some (LW (lv l+lv m)):=by
 have hXl:(W (lv l)).length≤2*l.length:=An5 (by rw [Bf8];refine AG (Bl1 h) (AC (by omega) (by omega)))
 have hYl:(W (lv m)).length≤2*m.length:=An5 (by rw [Bf8];refine AG (Bl1 k) (AC (by omega) (by omega)))
 unfold Aq1
 rw [Bf4 h (by omega),AA,Bf4 k (by omega),AA]
 generalize lv l=X at *
 generalize lv m=Y at *
 have hX:=Ad2 X
 have hY:=Ad2 Y
 obtain ⟨p,hp⟩:∃ p,p=max (W X).length (W Y).length:=⟨_,rfl⟩
 have hX2:X<4294967296^p:=AG hX (AC (by omega) (by omega))
 have hY2:Y<4294967296^p:=AG hY (AC (by omega) (by omega))
 have hcy:cyA X Y (p+1)=0:=by
  rw [← Dl9,Bh8 hX2,Bh8 hY2]
  have:=Fl5 X Y p
  omega
 have step:∀ i:Nat,i≤p+1→Aj1 (W X) (W Y) (((cyA X Y i:Nat):Int),(i:Int),Cz7 (X+Y) i)=cond (decide (i<p∨0<cyA X Y i)) (some (.inl (((cyA X Y (i+1):Nat):Int),((i+1:Nat):Int),Cz7 (X+Y) (i+1)))) (some (.inr (Cz7 (X+Y) i))):=fun i hi=>by
  have j:=Am1 X i
  have q:=Am1 Y i
  have r:=Fl5 X Y i
  unfold Aj1
  simp only [AA]
  have test:(cond (!(decide (((i:Nat):Int)<(((W X).length:Nat):Int)))) (cond (!(decide (((i:Nat):Int)<(((W Y).length:Nat):Int)))) (some (decide (((cyA X Y i:Nat):Int)>0))) (some true)) (some true))=some (decide (i<p∨0<cyA X Y i)):=by
   by_cases s:i<(W X).length
   · rw [decide_eq_true (p:=((i:Nat):Int)<_) (by omega),decide_eq_true (p:=i<p∨_) (by omega)];rfl
   · rw [decide_eq_false (p:=((i:Nat):Int)<_) (by omega),AP,cT]
     by_cases t:i<(W Y).length
     · rw [decide_eq_true (p:=((i:Nat):Int)<_) (by omega),decide_eq_true (p:=i<p∨_) (by omega)];rfl
     · rw [decide_eq_false (p:=((i:Nat):Int)<_) (by omega),AP,cT]
       congr 1
       exact decide_eq_decide.2 ⟨fun g => .inr (by omega),fun g=>by omega⟩
  rw [test,AA,Ei5 (Bk2 X),AA,Ei5 (Bk2 Y),AA,Bf0,Bf0]
  have d:u64.wrap (u64.wrap (((dg X i:Nat):Int)+((dg Y i:Nat):Int))+((cyA X Y i:Nat):Int))=((cyA X Y i+dg X i+dg Y i:Nat):Int):=by
   rw [w64,w64];omega
  have e:((cyA X Y i+dg X i+dg Y i:Nat):Int).tmod 4294967296=((dg (X+Y) i:Nat):Int):=by
   rw [Fk6,AD (by omega)];omega
  have f:u64.wrap (((cyA X Y i+dg X i+dg Y i:Nat):Int).tdiv 4294967296)=((cyA X Y (i+1):Nat):Int):=by
   rw [← Dl9,AE (by omega),w64];omega
  rw [d,e,f,Bb3 (by rw [Bb5];simp;omega),Cc3,wrU (by omega)];rfl
 have loop:∃ n,n≤p+1∧X+Y<4294967296^n∧Af5 (Aj1 (W X) (W Y)) FU (0,0,[])=some (Cz7 (X+Y) n):=by
  have a:((cyA X Y 0:Nat):Int)=0:=by unfold cyA;simp [BF]
  have hpow:(4294967296:Nat)^(p+1)=4294967296^p*4294967296:=AH ..
  by_cases c:cyA X Y p=0
  · refine ⟨p,by omega,?_,?_⟩
    · have:=Dv7 X Y p
      rw [AK hX2,AK hY2,c] at this
      exact (Nat.div_eq_zero_iff_lt (Ac5 p)).1 this
    · have:=Ac7 (b:=Aj1 (W X) (W Y)) (fun i=>(((cyA X Y i:Nat):Int),((i:Nat):Int),Cz7 (X+Y) i)) (o:=Cz7 (X+Y) p) p (by rw [Af4];omega) (fun i hi=>by
       rw [step i (by omega),Ab0 (by rw [decide_eq_true_eq];omega)]) (by rw [step p (by omega),Ab1 (by rw [decide_eq_false_iff_not];omega)])
      rw [a] at this
      exact this
  · refine ⟨p+1,by omega,by omega,?_⟩
    have:=Ac7 (b:=Aj1 (W X) (W Y)) (fun i=>(((cyA X Y i:Nat):Int),((i:Nat):Int),Cz7 (X+Y) i)) (o:=Cz7 (X+Y) (p+1)) (p+1) (by rw [Af4];omega) (fun i hi=>by
     rw [step i (by omega),Ab0 (by
      rw [decide_eq_true_eq]
      rcases AJ i p with g | g
      · exact .inl g
      · have:i=p:=by omega
        subst this;omega)]) (by rw [step (p+1) (by omega),Ab1 (by rw [decide_eq_false_iff_not];omega)])
    rw [a] at this
    exact this
 obtain ⟨n,hn,hlt,hloop⟩:=loop
 rw [hloop,AA,Cb5 (Dj0 _ _) (by rw [Bb5];omega),Ed5 hlt];rfl
def cyM (A q i:Nat):Nat:=A%4294967296^i*q/4294967296^i
theorem Fp8 (A q i:Nat):(dg A i*q+cyM A q i)/4294967296=cyM A q (i+1):=by
 unfold cyM
 rw [Ae1,AH,← AF]
 congr 1
 rw [AV,show dg A i*4294967296^i*q=dg A i*q*4294967296^i by ac_rfl,Nat.add_mul_div_right _ _ (Ac5 i)]
 omega
theorem Fn9 (A q i:Nat):dg (A*q) i=(dg A i*q+cyM A q i)%4294967296:=by
 have e:A*q/4294967296^i=A/4294967296^i*q+cyM A q i:=by
  unfold cyM
  have h:=BI A (4294967296^i)
  conv=>lhs;rw [← h]
  rw [AV,BQ,BJ (Ac5 i)]
 unfold dg
 rw [e,Nat.add_mod,Nat.mul_mod]
 conv=>rhs;rw [Nat.add_mod,Nat.mul_mod,Nat.mod_mod]
theorem Fy7 {A q i:Nat} (hq:0<q):cyM A q i<q:=by
 unfold cyM
 have:=BH A (Ac5 i)
 rw [AZ (Ac5 i),BG q]
 exact Nat.mul_lt_mul_of_pos_right this hq
theorem Gb7 {l:List Int} {n:Nat} (h:Ld l) (hl:l.length≤268435456) (hn:n≤1073741824):At9 l (n:Int)=some (LW (lv l*2^n)):=by
 have hAl:(W (lv l)).length≤2*l.length:=An5 (by rw [Bf8];refine AG (Bl1 h) (AC (by omega) (by omega)))
 obtain ⟨f,g⟩:=q32 (n:=n) (by omega)
 unfold At9
 rw [Bf4 h (by omega),AA,AA]
 generalize lv l=A at *
 by_cases d:A=0
 · subst d
   rw [Ap5,AY,Am2];rfl
 · have hr:n%32<32:=BH _ (by omega)
   have hlen:(W A).length≠0:=fun c=>d (Cs5.1 (AL c))
   rw [Ab1 (by rw [beq_eq_false_iff_ne];omega),g,Bb0 (by omega),AA,Dy1 (b:=Ay8 (n:Int)) hr (fun a i=>by unfold Ay8;rw [f]),AA]
   have hq:0<2^(n%32):=AR _
   have j:2^(n%32)≤2147483648:=by
    have:=AC (n:=2) (by omega) (show n%32≤31 by omega)
    exact this
   have e:A*2^n=4294967296^(n/32)*(A*2^(n%32)):=by
    rw [Bf8,BR,← AU];congr 2;omega
   rw [e]
   have hk:n/32≤33554432:=by omega
   generalize 2^(n%32)=q at *
   generalize n/32=k at *
   have loop:=Ac7 (b:=Ao7 (W A) (q:Int)) (fun i=>(((cyM A q i:Nat):Int),((i:Nat):Int),List.replicate k 0++Cz7 (A*q) i)) (o:=(((cyM A q (W A).length:Nat):Int),List.replicate k 0++Cz7 (A*q) (W A).length)) (W A).length (by rw [Af4];omega) (fun i hi=>by
    have t:=Am1 A i
    have u:=Fy7 (A:=A) (i:=i) hq
    have v:dg A i*q≤4294967295*2147483648:=Nat.mul_le_mul (by omega) j
    unfold Ao7
    simp only [AA]
    rw [Ab0 (by rw [decide_eq_true_eq];omega),An1 (Bk2 A) hi,AA,Bf0]
    have m:u64.wrap (u64.wrap (((dg A i:Nat):Int)*(q:Int))+((cyM A q i:Nat):Int))=((dg A i*q+cyM A q i:Nat):Int):=by
     rw [← AS,Ap1 (by omega),← BK,Ap1 (by omega)]
    have p:((dg A i*q+cyM A q i:Nat):Int).tmod 4294967296=((dg (A*q) i:Nat):Int):=by
     rw [Fn9]
     generalize dg A i*q+cyM A q i=y
     rw [AD (by omega)];omega
    have r:u64.wrap (((dg A i*q+cyM A q i:Nat):Int).tdiv 4294967296)=((cyM A q (i+1):Nat):Int):=by
     rw [← Fp8]
     have x:dg A i*q+cyM A q i<18446744073709551616:=by omega
     generalize dg A i*q+cyM A q i=y at *
     rw [AE (by omega),w64];omega
    rw [m,p,r,Bb3 (by rw [BE,Bb5];simp;omega),AA,AX,Cc3,wrU (by omega)]) (by
    unfold Ao7
    simp only [AA]
    rw [Ab1 (by simp)])
   have s:((cyM A q 0:Nat):Int)=0:=by unfold cyM;simp [BF]
   have loop:Af5 (Ao7 (W A) (q:Int)) FU (0,0,List.replicate k 0)=some (((cyM A q (W A).length:Nat):Int),List.replicate k 0++Cz7 (A*q) (W A).length):=by
    rw [s] at loop
    simpa [Cz7] using loop
   rw [loop,AA]
   dsimp only
   have hA:=Ad2 A
   have ed:cyM A q (W A).length=dg (A*q) (W A).length:=by
    have:=Fy7 (A:=A) (i:=(W A).length) hq
    rw [Fn9,Bh8 hA,AY,Nat.zero_add,BB (by omega)]
   have hlt:A*q<4294967296^((W A).length+1):=by
    rw [AH]
    exact BW hA (by omega)
   rw [AA,Bb3 (by rw [BE,Bb5];simp;omega),AA,ed,AX,Cc3,Cb5 (Eb1 (Cs9 k) (Dj0 _ _)) (by rw [BE,Bb5];simp;omega),Cc1,Cg4,Ed5 hlt]
   simp
end Go.Eng
/-
  Natural numbers of any length, as the document reckons with them: which is greater, differences. No condition.
-/
namespace Go.Eng
open Go
theorem De9 {n k:Nat} (h:k<(LW n).length):atI (LW n) (k:Int)=some ((n/18446744073709551616^k%18446744073709551616:Nat):Int):=by
 rw [Ac1 0 h,Eh3]
theorem Fr0 {l m:List Int} (h:Ld l) (k:Ld m) (hl:l.length≤1073741824) (hm:m.length≤1073741824):Ap9 l m=some (if lv l<lv m then -1 else if lv l=lv m then 0 else 1):=by
 have hal:=Bn1 (Bl1 h)
 have hbl:=Bn1 (Bl1 k)
 unfold Ap9
 rw [Bh2 h (by omega),Bh2 k (by omega)]
 simp only [AA]
 generalize lv l=a at *
 generalize lv m=b at *
 by_cases hlen:(LW a).length=(LW b).length
 · rw [Ab1 (by rw [bne_eq_false_iff_eq];omega)]
   generalize hn:(LW a).length=n at *
   rw [wrI (by omega) (by omega)]
   have ha:=Es1 a
   have hb:=Es1 b
   rw [hn,← Cd0] at ha
   rw [← hlen,← Cd0] at hb
   have step:∀ j:Nat,j<n→Ai9 (LW a) (LW b) (((n-j:Nat):Int)-1) =
    (if a/18446744073709551616^(n-1-j)%18446744073709551616=b/18446744073709551616^(n-1-j)%18446744073709551616 then some (.inl (((n-(j+1):Nat):Int)-1)) else if a/18446744073709551616^(n-1-j)%18446744073709551616<b/18446744073709551616^(n-1-j)%18446744073709551616 then some (.inr (.inr (-1))) else some (.inr (.inr 1))):=fun j hj=>by
    have d:((n-j:Nat):Int)-1=((n-1-j:Nat):Int):=by omega
    unfold Ai9
    dsimp only
    rw [d,De9 (n:=a) (by omega),De9 (n:=b) (by omega)]
    simp only [AA]
    generalize a/18446744073709551616^(n-1-j)%18446744073709551616=x
    generalize b/18446744073709551616^(n-1-j)%18446744073709551616=y
    rw [Ab0 (by rw [decide_eq_true_eq];omega)]
    rcases Nat.lt_trichotomy x y with g | g | g
    · rw [Ab0 (by rw [decide_eq_true_eq];omega),if_neg (by omega),if_pos g]
    · subst g
      rw [Ab1 (by rw [decide_eq_false_iff_not];omega),Ab1 (by rw [decide_eq_false_iff_not];omega),if_pos rfl,wrI (by omega) (by omega)]
      congr 2;omega
    · rw [Ab1 (by rw [decide_eq_false_iff_not];omega),Ab0 (by rw [decide_eq_true_eq];omega),if_neg (by omega),if_neg (by omega)]
   -- the numbers from a place on
   have up:∀ j:Nat,j≤n→(∀ i,i<j→a/18446744073709551616^(n-1-i)%18446744073709551616=b/18446744073709551616^(n-1-i)%18446744073709551616)→a/18446744073709551616^(n-j)=b/18446744073709551616^(n-j):=by
    intro j
    induction j with
    | zero=>intro _ _;rw [AW,AK ha,AK hb]
    | succ j ih=>
      intro hj hi
      have e:=ih (by omega) fun i hi'=>hi i (by omega)
      have p:=hi j (by omega)
      have d:n-(j+1)=n-1-j:=by omega
      have f:n-j=n-1-j+1:=by omega
      rw [f,AH,← AF,← AF] at e
      rw [d]
      generalize a/18446744073709551616^(n-1-j)=x at *
      generalize b/18446744073709551616^(n-1-j)=y at *
      omega
   rcases Ar7 (fun j=>decide (a/18446744073709551616^(n-1-j)%18446744073709551616≠b/18446744073709551616^(n-1-j)%18446744073709551616)) n with q | ⟨j,hj,e,p⟩
   · have hall:∀ i,i<n→a/18446744073709551616^(n-1-i)%18446744073709551616=b/18446744073709551616^(n-1-i)%18446744073709551616:=fun i hi=>by
      have:=q i hi
      simpa using this
     have hab:=up n (BN n) hall
     rw [Nat.sub_self,BS,Nat.div_one,Nat.div_one] at hab
     have loop:=Ac7 (b:=Ai9 (LW a) (LW b)) (fun j=>((n-j:Nat):Int)-1) (o := .inl ()) n (by rw [Af4];omega) (fun i hi=>by rw [step i hi,if_pos (hall i hi)]) (by
      unfold Ai9
      dsimp only
      rw [Nat.sub_self,Ab1 (by rfl)])
     rw [AW] at loop
     rw [loop,if_neg (by omega),if_pos hab];rfl
   · have hbef:∀ i,i<j→a/18446744073709551616^(n-1-i)%18446744073709551616=b/18446744073709551616^(n-1-i)%18446744073709551616:=fun i hi=>by
      have:=p i hi
      simpa using this
     have hne:a/18446744073709551616^(n-1-j)%18446744073709551616≠b/18446744073709551616^(n-1-j)%18446744073709551616:=by simpa using e
     have hhi:=up j (by omega) hbef
     have f:n-j=n-1-j+1:=by omega
     rw [f,AH,← AF,← AF] at hhi
     have hp:0<18446744073709551616^(n-1-j):=BY (by omega)
     have loop:=Ac7 (b:=Ai9 (LW a) (LW b)) (fun j=>((n-j:Nat):Int)-1) (o:=if a/18446744073709551616^(n-1-j)%18446744073709551616<b/18446744073709551616^(n-1-j)%18446744073709551616 then .inr (-1) else .inr 1) j (by rw [Af4];omega) (fun i hi=>by rw [step i (by omega),if_pos (hbef i hi)]) (by
      rw [step j hj,if_neg hne]
      split<;>rfl)
     rw [AW] at loop
     rw [loop,AA]
     have lt_of:∀ x y:Nat,x/18446744073709551616^(n-1-j)<y/18446744073709551616^(n-1-j)→x<y:=fun x y hxy=>by
      rcases AJ x y with g | g
      · exact g
      · have:=Nat.div_le_div_right (c:=18446744073709551616^(n-1-j)) g
        omega
     rcases AJ (a/18446744073709551616^(n-1-j)%18446744073709551616) (b/18446744073709551616^(n-1-j)%18446744073709551616) with g | g
     · have:=lt_of a b (by
        generalize a/18446744073709551616^(n-1-j)=x at *
        generalize b/18446744073709551616^(n-1-j)=y at *
        omega)
       rw [if_pos g,if_pos this]
     · have:=lt_of b a (by
        generalize a/18446744073709551616^(n-1-j)=x at *
        generalize b/18446744073709551616^(n-1-j)=y at *
        omega)
       rw [if_neg (by omega),if_neg (by omega),if_neg (by omega)]
 · rw [Ab0 (by rw [bne_iff_ne];omega)]
   have key:∀ x y:Nat,(LW x).length<(LW y).length→x<y:=fun x y hxy=>by
    rcases AJ x y with g | g
    · exact g
    · have:=Bn1 (AT g (Es1 x));omega
   rcases AJ (LW a).length (LW b).length with g | g
   · rw [Ab0 (by rw [decide_eq_true_eq];omega),if_pos (key a b g)]
   · have:=key b a (by omega)
     rw [Ab1 (by rw [decide_eq_false_iff_not];omega),if_neg (by omega),if_neg (by omega)]
theorem Ek5 {l m:List Int} (h:Ld l) (k:Ld m) (hl:l.length≤536870912) (hm:m.length≤536870912) (hle:lv m≤lv l):Ai3 l m=some (LW (lv l-lv m)):=by
 have hXl:(W (lv l)).length≤2*l.length:=An5 (by rw [Bf8];refine AG (Bl1 h) (AC (by omega) (by omega)))
 unfold Ai3
 rw [Bf4 h (by omega),AA,Bf4 k (by omega),AA]
 generalize lv l=X at *
 generalize lv m=Y at *
 have hX:=Ad2 X
 have loop:=Ac7 (b:=Al9 (W X) (W Y)) (fun i=>(((boA X Y i:Nat):Int),((i:Nat):Int),Cz7 (X-Y) i)) (o:=Cz7 (X-Y) (W X).length) (W X).length (by rw [Af4];omega) (fun i hi=>by
  have e:=Am1 X i
  have f:=Am1 Y i
  have g:=Gb5 X Y i
  unfold Al9
  simp only [AA]
  rw [Ab0 (by rw [decide_eq_true_eq];omega),An1 (Bk2 X) hi,AA,Ei5 (Bk2 Y),AA,Bf0,Bf0]
  have es:u64.wrap (u64.wrap (u64.wrap (4294967296+((dg X i:Nat):Int))-((dg Y i:Nat):Int))-((boA X Y i:Nat):Int))=4294967296+((dg X i:Nat):Int)-((dg Y i:Nat):Int)-((boA X Y i:Nat):Int):=by
   rw [w64,w64,w64];omega
  have a:(4294967296+((dg X i:Nat):Int)-((dg Y i:Nat):Int)-((boA X Y i:Nat):Int)).tmod 4294967296=((dg (X-Y) i:Nat):Int):=by
   rw [Fy0 hle,AD (by omega)];omega
  have c:u64.wrap (1-(u64.wrap ((4294967296+((dg X i:Nat):Int)-((dg Y i:Nat):Int)-((boA X Y i:Nat):Int)).tdiv 4294967296)))=((boA X Y (i+1):Nat):Int):=by
   rw [Em8,AE (by omega),w64,w64]
   split<;>omega
  rw [es,a,c,Bb3 (by rw [Bb5];simp;omega),AA,Cc3,wrU (by omega)]) (by
  unfold Al9
  simp only [AA]
  rw [Ab1 (by simp)])
 have d:((boA X Y 0:Nat):Int)=0:=by unfold boA;simp [BF]
 rw [d] at loop
 have loop:Af5 (Al9 (W X) (W Y)) FU (0,0,[])=some (Cz7 (X-Y) (W X).length):=loop
 rw [loop,AA,Cb5 (Dj0 _ _) (by rw [Bb5];omega),Ed5 (AT (Nat.sub_le _ _) hX)];rfl
end Go.Eng
/-
  Natural numbers of any length, as the document reckons with them: products. No condition.
-/
namespace Go.Eng
open Go
theorem Ge7 {x y r:List Int} {i V:Nat} (hx:Wd x) (hy:Wd y) (hi:i<x.length) (hr:Wd r) (hl:r.length=x.length+y.length) (hb:x.length+y.length≤8589934592) (hV:wv r=V) (m:∀ k,i+y.length≤k→r.getD k 0=0) :
 ∃ o,Aj5 x y ((i:Int),r)=some (.inl (((i+1:Nat):Int),o)) ∧
   Wd o∧o.length=x.length+y.length∧wv o=V+dg (wv x) i*wv y*4294967296^i∧∀ k,i+1+y.length≤k→o.getD k 0=0:=by
 have hxi:=Am1 (wv x) i
 obtain ⟨o,ho,c,a,rfl,hc,d,f,h,e⟩:=Ag0 (b:=Aj9 y x (i:Int)) (fun j s=>∃ (c:Nat) (a:List Int),s=((c:Int),(j:Int),a)∧c<4294967296∧Wd a∧a.length=x.length+y.length∧wv a+c*4294967296^(i+j)=V+dg (wv x) i*(wv y%4294967296^j)*4294967296^i∧∀ k,i+y.length≤k→a.getD k 0=0) y.length (fun o=>∃ (c:Nat) (a:List Int),o=((c:Int),a)∧c<4294967296∧Wd a∧a.length=x.length+y.length∧wv a+c*4294967296^(i+y.length)=V+dg (wv x) i*wv y*4294967296^i∧∀ k,i+y.length≤k→a.getD k 0=0) (by rw [Af4];omega) (fun j s hj=>by
  rintro ⟨c,a,rfl,hc,d,f,h,e⟩
  unfold Aj9
  simp only [AA]
  have hij:i+j<a.length:=by omega
  have hyj:=Am1 (wv y) j
  have hrij:=Cg6 d (i+j)
  generalize hg:(a.getD (i+j) 0).toNat=g
  have hg':a.getD (i+j) 0=(g:Int):=by omega
  have q:g<4294967296:=by omega
  have hprod:dg (wv x) i*dg (wv y) j≤4294967295*4294967295:=Nat.mul_le_mul (by omega) (by omega)
  rw [Ab0 (by simp;omega),An1 hx hi,AA,An1 hy hj,AA,Bs0 (by omega),Ac1 0 hij]
  simp only [AA,AM]
  have hS:((c+(dg (wv x) i*dg (wv y) j+g):Nat):Int)=(u64.wrap ((u64.wrap ((u64.wrap (((dg (wv x) i:Nat):Int)*((dg (wv y) j:Nat):Int)))+(g:Int)))+(c:Int))):=by
   rw [← AS,Ap1 (n:=dg (wv x) i*dg (wv y) j) (by omega),← BK,Ap1 (n:=dg (wv x) i*dg (wv y) j+g) (by omega),← BK,Ap1 (by omega)];omega
  rw [hg',← hS]
  have hm:((c+(dg (wv x) i*dg (wv y) j+g):Nat):Int).tmod 4294967296=(((c+(dg (wv x) i*dg (wv y) j+g))%4294967296:Nat):Int):=by
   rw [AD (by omega)];omega
  have hd:u64.wrap (((c+(dg (wv x) i*dg (wv y) j+g):Nat):Int).tdiv 4294967296)=(((c+(dg (wv x) i*dg (wv y) j+g))/4294967296:Nat):Int):=by
   rw [AE (by omega),w64];omega
  rw [hm,hd,wrU (by omega)]
  clear hS hm hd
  refine ⟨_,rfl,(c+(dg (wv x) i*dg (wv y) j+g))/4294967296,_,rfl,by omega,Bi5 d (by omega) (by omega),by rw [BZ];exact f,?_,fun k hk=>?_⟩
  · have hs:=Ct1 (l:=a) (((c+(dg (wv x) i*dg (wv y) j+g))%4294967296:Nat):Int) hij
    rw [hg,AM] at hs
    rw [show i+(j+1)=i+j+1 by omega,AH,Ae1]
    have hdm:=BI (c+(dg (wv x) i*dg (wv y) j+g)) 4294967296
    generalize hS:c+(dg (wv x) i*dg (wv y) j+g)=S at *
    have t:wv (a.set (i+j) ((S%4294967296:Nat):Int))+g*4294967296^(i+j)=wv a+S%4294967296*4294967296^(i+j):=hs
    have u:S/4294967296*(4294967296^(i+j)*4294967296)+S%4294967296*4294967296^(i+j)=S*4294967296^(i+j):=by
     conv=>rhs;rw [← hdm]
     rw [AV]
     congr 1
     ac_rfl
    have v:S*4294967296^(i+j)=c*4294967296^(i+j)+dg (wv x) i*dg (wv y) j*4294967296^(i+j)+g*4294967296^(i+j):=by
     rw [← hS,AV,AV];omega
    have p:dg (wv x) i*(wv y%4294967296^j+dg (wv y) j*4294967296^j)*4294967296^i=dg (wv x) i*(wv y%4294967296^j)*4294967296^i+dg (wv x) i*dg (wv y) j*4294967296^(i+j):=by
     rw [BX,AV,AU]
     congr 1
     ac_rfl
    rw [p]
    omega
  · rw [AB,BO (by omega),← AB]
    exact e k hk) (fun s=>by
  rintro ⟨c,a,rfl,hc,d,f,h,e⟩
  unfold Aj9
  simp only [AA]
  rw [Ab1 (by simp)]
  refine ⟨_,rfl,c,a,rfl,hc,d,f,?_,e⟩
  rw [h,Ay7 (Cm0 hy)]) ⟨0,r,rfl,by omega,hr,hl,by rw [hV,BS,BF];simp,m⟩
 have ho:Af5 (Aj9 y x (i:Int)) FU (0,0,r)=some ((c:Int),a):=ho
 unfold Aj5
 dsimp only
 rw [AA,Ab0 (by rw [decide_eq_true_eq];omega),ho,AA]
 dsimp only
 have hin:i+y.length<a.length:=by omega
 rw [AA,Bs0 (by omega),Ac1 0 hin]
 simp only [AA,AM]
 rw [wrU (by omega)]
 refine ⟨_,rfl,Bi5 d (by omega) (by omega),by rw [BZ];exact f,?_,fun k hk=>?_⟩
 · have hs:=Ct1 (l:=a) ((c:Nat):Int) hin
   rw [e _ (BN _),AM] at hs
   simp only [Int.toNat_zero,AY,Nat.add_zero] at hs
   rw [hs,h]
 · rw [AB,BO (by omega),← AB]
   exact e k (by omega)
theorem Fr6 {l m:List Int} (h:Ld l) (k:Ld m) (hl:l.length≤536870912) (hm:m.length≤536870912):Az8 l m=some (LW (lv l*lv m)):=by
 have hXl:(W (lv l)).length≤2*l.length:=An5 (by rw [Bf8];refine AG (Bl1 h) (AC (by omega) (by omega)))
 have hYl:(W (lv m)).length≤2*m.length:=An5 (by rw [Bf8];refine AG (Bl1 k) (AC (by omega) (by omega)))
 unfold Az8
 rw [Bf4 h (by omega),AA,Bf4 k (by omega),AA]
 generalize lv l=a at *
 generalize lv m=b at *
 have pro:Av4 (W a) (W b)=some (W (a*b)):=by
  unfold Av4
  rw [AA,AA,Bs0 (by omega),Bb0 (by omega),AA]
  obtain ⟨o,ho,hw,hl,hv⟩:=Ag0 (b:=Aj5 (W a) (W b)) (fun i s=>∃ r,s=((i:Int),r)∧Wd r∧r.length=(W a).length+(W b).length∧wv r=(a%4294967296^i)*b∧∀ k,i+(W b).length≤k→r.getD k 0=0) (W a).length (fun o=>Wd o∧o.length=(W a).length+(W b).length∧wv o=a*b) (by rw [Af4];omega) (fun i s hi=>by
   rintro ⟨r,rfl,hr,hl,hv,hz⟩
   obtain ⟨o,c,e,f,d,g⟩:=Ge7 (Bk2 a) (Bk2 b) hi hr hl (by omega) hv hz
   rw [Bf0,Bf0] at d
   refine ⟨(((i+1:Nat):Int),o),c,o,rfl,e,f,?_,g⟩
   rw [d,Ae1,AV]
   congr 1
   ac_rfl) (fun s=>by
   rintro ⟨r,rfl,hr,hl,hv,hz⟩
   unfold Aj5
   simp only [AA]
   rw [Ab1 (by simp)]
   exact ⟨r,rfl,hr,hl,by rw [hv,Ay7 (Ad2 a)]⟩) (s0:=(0,List.replicate ((W a).length+(W b).length) 0)) ⟨_,rfl,Cs9 _,by simp,by rw [Cg4,BS,BF,AY],fun k _=>by
    rw [AB]
    rcases AJ k ((W a).length+(W b).length) with hk | hk
    · simp [hk]
    · rw [BA (by simpa using hk)];rfl⟩
  rw [ho,AA,Ef3 hw (by omega),hv]
 have hlen:(W (a*b)).length≤4294967296:=by
  have c:a*b<4294967296^((W a).length+(W b).length):=by
   rw [AU]
   exact BW (Ad2 a) (Ad2 b)
  have:=An5 c
  omega
 rw [pro,AA,Cb5 (Bk2 _) hlen,Bf0];rfl
end Go.Eng
/-
  Exact numbers, as the document reckons with them: sums, by value. No condition.
-/
set_option maxHeartbeats 4000000
namespace Go.Eng
open Go
def nv (K:Int) (s:Bool) (n:Nat) (e:Int):Int:=sgN s n*((2^(e-K).toNat:Nat):Int)
theorem Ft0 (s:Bool):sgN s 0=0:=by cases s<;>rfl
theorem Cd4 (K:Int) (s:Bool) (e:Int):nv K s 0 e=0:=by unfold nv;rw [Ft0,Int.zero_mul]
theorem Fu4 {K e:Int} {s:Bool} {n d:Nat} (h:K≤e):nv K s (n*2^d) e=nv K s n (e+d):=by
 unfold nv
 have a:(e+(d:Int)-K).toNat=d+(e-K).toNat:=by omega
 rw [a,AU,AS,← Int.mul_assoc]
 congr 1
 unfold sgN
 cases s<;>simp [AS,BP]
theorem Fn7 {K e:Int} {s t u:Bool} {n k p:Nat} (h:sgN u p=sgN s n+sgN t k):nv K u p e=nv K s n e+nv K t k e:=by
 unfold nv
 rw [h,Int.add_mul]
theorem LWl {n:Nat} {b:Nat} (h:blN n≤b):(LW n).length≤b/64+1:=LW_len' (Ap3.1 h) (by omega)
theorem Du4 {s t:Bool} {n k:Nat} {e f:Int} (hn:blN n≤33554432) (hk:blN k≤33554432) (he:e≤f) (o : -33554432≤e) (q:f≤33554432):∃ u p,((At9 (LW k) (i64.wrap (f-e))).bind fun a=>
 cond (s==t)
  ((Aq1 (LW n) a).bind fun b=>
    some (s,b,e))
  ((Ap9 (LW n) a).bind fun h=>
    cond (decide (h≥0))
     ((Ai3 (LW n) a).bind fun i=>
       some (s,i,e))
     ((Ai3 a (LW n)).bind fun j=>
       some (t,j,e))))=some (u,LW p,e)∧∀ K,K≤e→nv K u p e=nv K s n e+nv K t k f:=by
 obtain ⟨d,hd⟩:∃ d:Nat,f-e=d:=⟨(f-e).toNat,by omega⟩
 have r:=LWl hn
 have v:=LWl hk
 have hbk:blN (k*2^d)≤100663296:=by
  by_cases c:k=0
  · subst c;rw [AY];exact Nat.zero_le _
  · rw [As4 _ _ c];omega
 have x:=LWl hbk
 rw [wrI (by omega) (by omega),hd,Gb7 (Ba7 k) (by omega) (by omega),At7,AA]
 have hv:∀ K,K≤e→nv K t k f=nv K t (k*2^d) e:=fun K hK=>by
  rw [Fu4 hK];congr 1;omega
 generalize k*2^d=m at *
 by_cases c:s=t
 · subst c
   rw [Ab0 (by simp),Fp5 (Ba7 n) (Ba7 m) (by omega) (by omega),At7,At7]
   refine ⟨s,n+m,rfl,fun K hK=>?_⟩
   rw [hv K hK]
   refine Fn7 ?_
   unfold sgN
   cases s<;>simp<;>omega
 · have hst:t = !s:=by cases s<;>cases t<;>simp at c ⊢
   rw [Ab1 (by rw [beq_eq_false_iff_ne];exact c),Fr0 (Ba7 n) (Ba7 m) (by omega) (by omega),At7,At7,AA]
   by_cases g:n<m
   · rw [if_pos g,Ab1 (by rfl),Ek5 (Ba7 m) (Ba7 n) (by omega) (by omega) (by rw [At7,At7];omega),At7,At7]
     refine ⟨t,m-n,rfl,fun K hK=>?_⟩
     rw [hv K hK]
     refine Fn7 ?_
     subst hst
     unfold sgN
     cases s<;>simp<;>omega
   · have l:decide ((if n<m then (-1:Int) else if n=m then 0 else 1)≥0)=true:=by
      rw [if_neg g]
      split<;>rfl
     rw [l,cT,Ek5 (Ba7 n) (Ba7 m) (by omega) (by omega) (by rw [At7,At7];omega),At7,At7]
     refine ⟨s,n-m,rfl,fun K hK=>?_⟩
     rw [hv K hK]
     refine Fn7 ?_
     subst hst
     unfold sgN
     cases s<;>simp<;>omega
theorem Fz8 {s t:Bool} {n k:Nat} {e f:Int} (hn:blN n≤33554432) (hk:blN k≤33554432) (i : -33554432≤e) (j:e≤33554432) (l : -33554432≤f) (m:f≤33554432) :
 ∃ u p g,Ao8 s (LW n) e t (LW k) f=some (u,LW p,g)∧min e f≤g∧g≤max e f∧∀ K,K≤e→K≤f→nv K u p g=nv K s n e+nv K t k f:=by
 have o:=LWl hn
 have q:=LWl hk
 unfold Ao8
 rw [Df4 (Ba7 n) (by omega),At7,AA]
 by_cases a:n=0
 · rw [decide_eq_true a,cT]
   exact ⟨t,k,f,rfl,by omega,by omega,fun K _ _=>by rw [a,Cd4,Int.zero_add]⟩
 · rw [decide_eq_false a,cF,Df4 (Ba7 k) (by omega),At7,AA]
   by_cases b:k=0
   · rw [decide_eq_true b,cT]
     exact ⟨s,n,e,rfl,by omega,by omega,fun K _ _=>by rw [b,Cd4,Int.add_zero]⟩
   · rw [decide_eq_false b,cF]
     by_cases c:e>f
     · rw [decide_eq_true c,cT]
       unfold Bk0
       rw [Df4 (Ba7 k) (by omega),At7,AA,decide_eq_false b,cF,Df4 (Ba7 n) (by omega),At7,AA,decide_eq_false a,cF,Ab1 (by rw [decide_eq_false_iff_not];omega)]
       obtain ⟨u,p,d,h⟩:=Du4 (s:=t) (t:=s) hk hn (show f≤e by omega) l j
       rw [d,AA]
       exact ⟨u,p,f,rfl,by omega,by omega,fun K hK1 hK2=>by rw [h K hK2];omega⟩
     · rw [decide_eq_false c,cF]
       obtain ⟨u,p,d,h⟩:=Du4 (s:=s) (t:=t) hn hk (show e≤f by omega) i m
       rw [d]
       exact ⟨u,p,e,rfl,by omega,by omega,fun K hK1 hK2=>h K hK1⟩
theorem Eq1 (K:Int) (s:Bool) (n:Nat) (e:Int):nv K (!s) n e = - nv K s n e:=by
 unfold nv sgN
 cases s<;>simp [BP]
theorem Cq2 (K:Int) (s:Bool) (n:Nat) (e:Int):(nv K s n e).natAbs=n*2^(e-K).toNat:=by
 unfold nv
 rw [Int.natAbs_mul,Int.natAbs_natCast,Ei0]
theorem Fr9 {a b:Nat} (h:a≤b):blN a≤blN b:=Ap3.2 (AT h (Ap3.1 (BN _)))
theorem Dd7 {n a d c:Nat} (h:blN n≤a) (hd:a+d≤c):blN (n*2^d)≤c:=by
 by_cases b:n=0
 · subst b;rw [AY];exact Nat.zero_le _
 · rw [As4 _ _ b];omega
theorem Gt6 {x y z:Int} {a:Nat} (h:z=x+y) (hx:blN x.natAbs≤a) (hy:blN y.natAbs≤a):blN z.natAbs≤a+1:=by
 have b:=Ap3.1 hx
 have c:=Ap3.1 hy
 refine Ap3.2 ?_
 rw [AH]
 generalize 2^a=Q at *
 omega
end Go.Eng
/-
  Exact numbers, as the document reckons with them: signs, and which is greater. No condition.
-/
namespace Go.Eng
open Go
theorem Dl5 {s:Bool} {n:Nat} {e:Int} (hn:blN n≤134217728) (K:Int):Af7 s (LW n) e=some (sgZ' (nv K s n e)):=by
 have b:=LWl hn
 have hp:(0:Int)<((2^(e-K).toNat:Nat):Int):=by have:=AR (e-K).toNat;omega
 unfold Af7
 rw [Df4 (Ba7 n) (by omega),At7,AA]
 by_cases a:n=0
 · rw [decide_eq_true a,cT,a,Cd4];rfl
 · rw [decide_eq_false a,cF]
   unfold nv sgN sgZ'
   generalize ((2^(e-K).toNat:Nat):Int)=P at hp
   have hpos:0<(n:Int)*P:=Int.mul_pos (by omega) hp
   cases s with
   | false=>
     rw [cF]
     simp only [Bool.false_eq_true,if_false]
     rw [if_neg (by omega),if_neg (by omega)]
   | true=>
     rw [cT]
     simp only [if_true]
     rw [BP,if_pos (by omega)]
theorem Fc5 {s t:Bool} {n k:Nat} {e f K:Int} (hn:blN n≤33554432) (hk:blN k≤33554432) (ab : -33554432≤e) (ac:e≤33554432) (ad : -33554432≤f) (ae:f≤33554432) (K1:K≤e) (K2:K≤f) :
 Av9 s (LW n) e t (LW k) f=some (Dd5 (nv K s n e) (nv K t k f)):=by
 have l1:=LWl hn
 have l2:=LWl hk
 have v:=Cq2 K s n e
 have x:=Cq2 K t k f
 unfold Av9
 rw [Dl5 (by omega) K,AA,Dl5 (by omega) K,AA]
 have hplus:=Fz8 (s:=s) (t := !t) hn hk ab ac ad ae
 have hm:=Eq1 K t k f
 obtain ⟨u,p,g,p1,p2,p3,y⟩:=hplus
 have z:=y K K1 K2
 rw [hm] at z
 have hb:blN p≤134217728:=by
  -- by the value, at the least of both places
  have q:=y (min e f) (by omega) (by omega)
  have l:=Cq2 (min e f) u p g
  have i:=Cq2 (min e f) s n e
  have a3:=Cq2 (min e f) (!t) k f
  have m:blN (nv (min e f) s n e).natAbs≤134217727:=by
   rw [i];exact Dd7 hn (by omega)
  have j:blN (nv (min e f) (!t) k f).natAbs≤134217727:=by
   rw [a3];exact Dd7 hk (by omega)
  have b3:=Gt6 q m j
  rw [l] at b3
  exact Nat.le_trans (Fr9 (Nat.le_mul_of_pos_right _ (AR _))) b3
 have bX:n≠0→blN (nv K s n e).natAbs=blN n+(e-K).toNat:=fun h=>by rw [v];exact As4 _ _ h
 have bY:k≠0→blN (nv K t k f).natAbs=blN k+(f-K).toNat:=fun h=>by rw [x];exact As4 _ _ h
 have zX:n=0→nv K s n e=0:=fun h=>by rw [h,Cd4]
 have zY:k=0→nv K t k f=0:=fun h=>by rw [h,Cd4]
 have sp:=Dl5 (s:=u) (e:=g) hb K
 rw [z] at sp
 generalize hX:nv K s n e=X at *
 generalize hY:nv K t k f=Y at *
 clear v x
 have test:(cond (!(sgZ' X != sgZ' Y)) (some (sgZ' X==0)) (some true))=some (decide (sgZ' X≠sgZ' Y∨sgZ' X=0)):=by
  by_cases c:sgZ' X=sgZ' Y
  · have o:(sgZ' X != sgZ' Y)=false:=by rw [bne_eq_false_iff_eq];exact c
    rw [o,AP,cT]
    congr 1
    rw [Bool.eq_iff_iff,beq_iff_eq,decide_eq_true_eq]
    exact ⟨.inr,fun h=>h.resolve_left fun k=>k c⟩
  · have o:(sgZ' X != sgZ' Y)=true:=by rw [bne_iff_ne];exact c
    rw [o,Bool.not_true,cF,decide_eq_true (.inl c)]
 rw [test,AA]
 by_cases c:sgZ' X≠sgZ' Y∨sgZ' X=0
 · rw [decide_eq_true c,cT]
   unfold Dd5
   rcases Ae7 X with ⟨l,i⟩ | ⟨l,i⟩ | ⟨l,i⟩<;>rcases Ae7 Y with ⟨m,j⟩ | ⟨m,j⟩ | ⟨m,j⟩<;>rw [i,j] at c ⊢
   · exact absurd c (by decide)
   · rw [if_pos (by omega)];rfl
   · rw [if_pos (by omega)];rfl
   · rw [if_neg (by omega),if_neg (by omega)];rfl
   · rw [if_neg (by omega),if_pos (by omega)];rfl
   · rw [if_pos (by omega)];rfl
   · rw [if_neg (by omega),if_neg (by omega)];rfl
   · rw [if_neg (by omega),if_neg (by omega)];rfl
   · exact absurd c (by decide)
 · rw [decide_eq_false c,cF]
   have hse:sgZ' X=sgZ' Y:=Classical.byContradiction fun k=>c (.inl k)
   have aa:sgZ' X≠0:=fun k=>c (.inr k)
   have r:X≠0:=fun k=>aa (by rw [k];rfl)
   have y0:Y≠0:=fun k=>aa (by rw [hse,k];rfl)
   have n0:n≠0:=fun k=>r (zX k)
   have k0:k≠0:=fun k=>y0 (zY k)
   have bX:=bX n0
   have bY:=bY k0
   rw [Fz9 (Ba7 n) (by omega) (by omega) (by omega),AA,Fz9 (Ba7 k) (by omega) (by omega) (by omega),AA,At7,At7]
   by_cases c3:e+(blN n:Int)=f+(blN k:Int)
   · rw [Ab1 (by rw [bne_eq_false_iff_eq];exact c3)]
     unfold Ap8
     rw [AA]
     dsimp only
     rw [p1,AA]
     dsimp only
     rw [sp,AA,Gg3];rfl
   · rw [Ab0 (by rw [bne_iff_ne];exact c3),AA,AA]
     unfold Dd5
     by_cases c4:e+(blN n:Int)<f+(blN k:Int)
     · have:=By6 (a:=X.natAbs) (b:=Y.natAbs) (by omega)
       rw [Ab0 (by rw [decide_eq_true_eq];exact c4)]
       rcases Ae7 X with ⟨a,b⟩ | ⟨a,b⟩ | ⟨a,b⟩
       · have:Y<0:=by rcases Ae7 Y with ⟨c,d⟩ | ⟨c,d⟩ | ⟨c,d⟩<;>omega
         rw [b,if_neg (by omega),if_neg (by omega)];rfl
       · exact absurd a r
       · have:0<Y:=by rcases Ae7 Y with ⟨c,d⟩ | ⟨c,d⟩ | ⟨c,d⟩<;>omega
         rw [b,if_pos (by omega)];rfl
     · have:=By6 (a:=Y.natAbs) (b:=X.natAbs) (by omega)
       rw [Ab1 (by rw [decide_eq_false_iff_not];exact c4)]
       rcases Ae7 X with ⟨a,b⟩ | ⟨a,b⟩ | ⟨a,b⟩
       · have:Y<0:=by rcases Ae7 Y with ⟨c,d⟩ | ⟨c,d⟩ | ⟨c,d⟩<;>omega
         rw [b,if_pos (by omega)]
       · exact absurd a r
       · have:0<Y:=by rcases Ae7 Y with ⟨c,d⟩ | ⟨c,d⟩ | ⟨c,d⟩<;>omega
         rw [b,if_neg (by omega),if_neg (by omega)]
end Go.Eng
/-
  Exact numbers, as the document reckons with them: products by value. No condition.
-/
set_option maxHeartbeats 400000
namespace Go.Eng
open Go
theorem Gi3 {s t:Bool} {n k:Nat} {e f:Int} (hn:blN n≤33554432) (hk:blN k≤33554432) (a : -33554432≤e) (b:e≤33554432) (c : -33554432≤f) (d:f≤33554432) :
 Aq6 s (LW n) e t (LW k) f=some (!(s==t),LW (n*k),e+f):=by
 have g:=LWl hn
 have h:=LWl hk
 unfold Aq6
 rw [Fr6 (Ba7 n) (Ba7 k) (by omega) (by omega),At7,At7,AA,wrI (by omega) (by omega)]
theorem Fq9 (s t:Bool) (n k:Nat):sgN (!(s==t)) (n*k)=sgN s n*sgN t k:=by
 unfold sgN
 cases s<;>cases t<;>simp [AS,BP,Int.mul_neg]
end Go.Eng
