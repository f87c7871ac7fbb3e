
/-
  Natural numbers of any length, as the document reckons with them (limbs, digits of 32 bits): noughts cut off, halves, limbs, over one digit, over a power of two; the right dyad of any dyad. No condition.
-/
import Derived.Test.YtgbilchfljlbeaaGreatDoorDy2
set_option linter.all false
set_option maxRecDepth 100000
set_option maxHeartbeats 400000
set_option exponentiation.threshold 70000
namespace Go.Eng
open Go
theorem Gb7 (l m:List Int):lv (l++m)=lv l+18446744073709551616^l.length*lv m:=by
  induction l with
  | nil=>simp [lv]
  | cons x l ih=>
    have e:∀ (x:Int) (l:List Int),lv (x::l)=x.toNat+18446744073709551616*lv l:=fun _ _=>rfl
    rw [List.cons_append,e,e,ih,List.length_cons,Nat.pow_succ,Nat.mul_add,← Nat.mul_assoc,Nat.mul_comm 18446744073709551616 (_^_)]
    omega
theorem Fn3 {l:List Int} (h:∀ j,j<l.length→l.getD j 0=0):lv l=0:=by
  induction l with
  | nil=>rfl
  | cons x l ih=>
    have h0:=h 0 (by simp)
    have h0:x=0:=by simpa using h0
    have:=ih fun j hj=>by
      have:=h (j+1) (by simpa using hj)
      simpa using this
    unfold lv
    rw [this,h0];rfl
theorem Ld.take {l:List Int} (h:Ld l) (n:Nat):Ld (l.take n):=fun y hy=>h y (List.mem_of_mem_take hy)
theorem Ha9 {l:List Int} {k:Nat} (h:Ld l) (hk:k≤l.length) (h0:∀ j,k≤j→j<l.length→l.getD j 0=0) (h1:k=0∨l.getD (k-1) 0≠0):l.take k=LW (lv l):=by
  have e:lv l=lv (l.take k):=by
    conv=>lhs;rw [← List.take_append_drop k l]
    rw [Gb7,Fn3 (l:=l.drop k) fun j hj=>by
      have hj:j<l.length-k:=by simpa using hj
      have:=h0 (k+j) (by omega) (by omega)
      simpa [List.getD_eq_getElem?_getD] using this]
    simp
  rw [e]
  refine Ha6 (h.take k) ?_
  rcases h1 with h1 | h1
  · left;subst h1;rfl
  · by_cases hz:k=0
    · left;subst hz;rfl
    · right
      rw [List.length_take,Nat.min_eq_left hk]
      rw [List.getD_eq_getElem?_getD,List.getElem?_take_of_lt (by omega),← List.getD_eq_getElem?_getD]
      exact h1
theorem Es5 {l:List Int} (hl:l.length≤1099511627776):∃ n:Nat,n≤l.length∧Ag0 (Ah2 l) FU ((l.length:Nat):Int)=some (n:Int)∧(∀ j,n≤j→j<l.length→l.getD j 0=0)∧(n=0∨l.getD (n-1) 0≠0):=by
  have ex:∃ n:Nat,n≤l.length∧(∀ j,n≤j→j<l.length→l.getD j 0=0)∧(n=0∨l.getD (n-1) 0≠0):=by
    rcases Az2 (fun i=>l.getD (l.length-1-i) 0 != 0) l.length with h | ⟨i,hi,h1,h2⟩
    · refine ⟨0,by omega,fun j _ hj=>?_,.inl rfl⟩
      have:=h (l.length-1-j) (by omega)
      rw [show l.length-1-(l.length-1-j)=j by omega] at this
      simpa using this
    · refine ⟨l.length-i,by omega,fun j hj hjl=>?_,.inr ?_⟩
      · have:=h2 (l.length-1-j) (by omega)
        rw [show l.length-1-(l.length-1-j)=j by omega] at this
        simpa using this
      · rw [show l.length-i-1=l.length-1-i by omega]
        simpa using h1
  obtain ⟨n,hn,h0,h1⟩:=ex
  refine ⟨n,hn,?_,h0,h1⟩
  have loop:=Ab9 (b:=Ah2 l) (fun i=>((l.length-i:Nat):Int)) (o:=(n:Int)) (l.length-n) (by rw [Ae6];omega) (fun i hi=>by
    unfold Ah2
    dsimp only
    have e:IntKind.i64.wrap (((l.length-i:Nat):Int)-1)=((l.length-(i+1):Nat):Int):=by rw [wrI (by omega) (by omega)];omega
    rw [Aa6 (by simp;omega),e,Ab8 0 (by omega),Option.bind_some,h0 _ (by omega) (by omega)]
    rfl) (by
    unfold Ah2
    dsimp only
    rw [show l.length-(l.length-n)=n by omega]
    rcases h1 with h1 | h1
    · subst h1;rfl
    · by_cases hz:n=0
      · subst hz;rfl
      · have e:IntKind.i64.wrap (((n:Nat):Int)-1)=((n-1:Nat):Int):=by rw [wrI (by omega) (by omega)];omega
        rw [Aa6 (by simp;omega),e,Ab8 0 (by omega),Option.bind_some,Aa8 (by simpa using h1)])
  rw [Nat.sub_zero] at loop
  exact loop
theorem Bt4 {l:List Int} (h:Ld l) (hl:l.length≤4294967296):Ah7 l=some (LW (lv l)):=by
  obtain ⟨n,hn,ht,h0,h1⟩:=Es5 (l:=l) (by omega)
  unfold Ah7
  rw [Option.bind_some,ht,Option.bind_some,show (0:Int)=((0:Nat):Int) from rfl,Cd4 (by omega) hn,Option.bind_some]
  have:=Ha9 h hn h0 h1
  rw [List.drop_zero,Nat.sub_zero,this,Bg5,Option.bind_some,List.nil_append]
  rw [← this,List.length_take,List.length_nil];omega
theorem Ho2 (l:List Int):Bu1 l=Ah2 l:=rfl
theorem Ex7 {l:List Int} (h:Wd l) (hl:l.length≤1099511627776) {β:Type} (f:List Int→Option β):((Bf6 l).bind fun t=>(Cy1 l 0 t).bind f)=f (W (wv l)):=by
  obtain ⟨n,hn,ht,h0,h1⟩:=Es5 (l:=l) hl
  unfold Bf6
  rw [Option.bind_some,Ho2,ht,Option.bind_some,show (0:Int)=((0:Nat):Int) from rfl,Cd4 (by omega) hn,Option.bind_some,Option.bind_some,Cd4 (by omega) hn,Option.bind_some]
  have:=Gs2 h hn h0 h1
  rw [← this]
  simp
def hvs:List Int→List Int
  | []=>[]
  | x::l=>(x%4294967296)::(x/4294967296)::hvs l
theorem Fn8 (l m:List Int):hvs (l++m)=hvs l++hvs m:=by
  induction l with
  | nil=>rfl
  | cons x l ih=>simp [hvs,ih]
theorem Fv4 (l:List Int):(hvs l).length=2*l.length:=by
  induction l with
  | nil=>rfl
  | cons x l ih=>simp [hvs,ih];omega
theorem He2 {l:List Int} (h:Ld l):Wd (hvs l):=by
  induction l with
  | nil=>exact Ff7
  | cons x l ih=>
    have hx:=h x (List.mem_cons_self ..)
    exact Cn9 (by omega) (by omega) (Cn9 (by omega) (by omega) (ih fun y hy=>h y (List.mem_cons_of_mem _ hy)))
theorem Hg7 {l:List Int} (h:Ld l):wv (hvs l)=lv l:=by
  induction l with
  | nil=>rfl
  | cons x l ih=>
    have hx:=h x (List.mem_cons_self ..)
    have:=ih fun y hy=>h y (List.mem_cons_of_mem _ hy)
    simp only [hvs,wv,lv,this];omega
theorem Bs7 {l:List Int} {i:Nat} (h:i<l.length):l.take (i+1)=l.take i ++ [l.getD i 0]:=by
  rw [List.take_add_one,List.getD_eq_getElem?_getD,List.getElem?_eq_getElem h];rfl
theorem Bi2 {l:List Int} (h:Ld l) (hl:l.length≤1073741824):Ag4 l=some (W (lv l)):=by
  have loop:=Ab9 (b:=Am7 l) (fun i=>(((i:Nat):Int),hvs (l.take i))) (o:=hvs l) l.length (by rw [Ae6];omega) (fun i hi=>by
    have hx:=h (l.getD i 0) (by rw [List.getD_eq_getElem?_getD,List.getElem?_eq_getElem hi];exact List.getElem_mem _)
    unfold Am7
    simp only [Option.bind_some]
    rw [Aa6 (by simp;omega),Ab8 0 hi]
    simp only [Option.bind_some]
    rw [Bg5 (by rw [Fv4];simp;omega),Option.bind_some,Bs7 hi,Fn8,wrU (by omega)]
    generalize l.getD i 0=x at *
    have e1:x.tmod 4294967296=x%4294967296:=Int.tmod_eq_emod_of_nonneg hx.1
    have e2:IntKind.u64.wrap (x.tdiv 4294967296)=x/4294967296:=by rw [Int.tdiv_eq_ediv_of_nonneg hx.1,w64];omega
    rw [e1,e2];rfl) (by
    unfold Am7
    simp only [Option.bind_some]
    rw [Aa8 (by simp),List.take_length])
  have loop:Ag0 (Am7 l) FU (0,[])=some (hvs l):=loop
  unfold Ag4
  rw [loop,Option.bind_some,Ex7 (He2 h) (by rw [Fv4];omega),Hg7 h]
def prs:List Int→List Int
  | x::y::r=>(x+4294967296*y)::prs r
  | [x]=>[x]
  | []=>[]
theorem Cm4:∀ (j:Nat) {l m:List Int},l.length=2*j→prs (l++m)=prs l++prs m
  | 0,l,m,h=>by
    have:l = []:=List.eq_nil_of_length_eq_zero (by omega)
    subst this;rfl
  | j+1,x::y::r,m,h=>by
    simp only [List.cons_append,prs]
    rw [Cm4 j (l:=r) (by simp at h;omega)]
  | j+1,[x],m,h=>by simp at h;omega
  | j+1,[],m,h=>by simp at h
theorem Fc4:∀ (l:List Int),(prs l).length≤l.length
  | x::y::r=>by have:=Fc4 r;simp [prs];omega
  | [x]=>by simp [prs]
  | []=>by simp [prs]
theorem Gs4:∀ {l:List Int},Wd l→Ld (prs l)
  | x::y::r,h=>by
    have h1:=Bk5 h
    have h2:=Bk5 (Bg7 h)
    have:=Gs4 (Bg7 (Bg7 h))
    intro z hz
    simp only [prs,List.mem_cons] at hz
    rcases hz with rfl | hz
    · omega
    · exact this z hz
  | [x],h=>by
    have h1:=Bk5 h
    intro z hz
    simp only [prs,List.mem_singleton] at hz
    subst hz;omega
  | [],_=>fun z hz=>by cases hz
theorem Gr9:∀ {l:List Int},Wd l→lv (prs l)=wv l
  | x::y::r,h=>by
    have h1:=Bk5 h
    have h2:=Bk5 (Bg7 h)
    have:=Gr9 (Bg7 (Bg7 h))
    simp only [prs,lv,wv,this];omega
  | [x],h=>by simp [prs,lv,wv]
  | [],_=>rfl
theorem Cf2 {d:List Int} (h:Wd d) (hl:d.length≤4294967296):Ao2 d=some (LW (wv d)):=by
  have loop:=Ab9 (b:=Ap5 d) (fun j=>(((2*j:Nat):Int),prs (d.take (2*j)))) (o:=prs d) ((d.length+1)/2) (by rw [Ae6];omega) (fun j hj=>by
    have hx:=Cv7 h (2*j)
    have hy:=Cv7 h (2*j+1)
    have hlen:=Fc4 (d.take (2*j))
    rw [List.length_take] at hlen
    have h2j:(d.take (2*j)).length=2*j:=by rw [List.length_take];omega
    have w1:IntKind.i64.wrap (((2*j:Nat):Int)+2)=((2*(j+1):Nat):Int):=by rw [wrI (by omega) (by omega)];omega
    unfold Ap5
    simp only [Option.bind_some]
    rw [Aa6 (by simp;omega),Ab8 0 (by omega),Option.bind_some,wrU (by omega),w1]
    by_cases hc:2*j+1<d.length
    · have e:d.take (2*(j+1))=d.take (2*j) ++ [d.getD (2*j) 0,d.getD (2*j+1) 0]:=by
        rw [show 2*(j+1)=2*j+1+1 by omega,Bs7 hc,Bs7 (by omega),List.append_assoc];rfl
      rw [Aa6 (by simp;omega),Ab8 0 hc]
      simp only [Option.bind_some]
      rw [Bg5 (by simp;omega),Option.bind_some,e,Cm4 j h2j]
      have ew:IntKind.u64.wrap (d.getD (2*j) 0+IntKind.u64.wrap (4294967296*d.getD (2*j+1) 0))=d.getD (2*j) 0+4294967296*d.getD (2*j+1) 0:=by
        rw [w64,w64];omega
      rw [ew];rfl
    · have e:d.take (2*(j+1))=d.take (2*j) ++ [d.getD (2*j) 0]:=by
        rw [← Bs7 (by omega),List.take_of_length_le (by omega),List.take_of_length_le (by omega)]
      rw [Aa8 (by simp;omega)]
      simp only [Option.bind_some]
      rw [Bg5 (by simp;omega),Option.bind_some,e,Cm4 j h2j];rfl) (by
    unfold Ap5
    simp only [Option.bind_some]
    rw [Aa8 (by simp;omega),List.take_of_length_le (by omega)])
  have loop:Ag0 (Ap5 d) FU (0,[])=some (prs d):=loop
  have hlen:=Fc4 d
  unfold Ao2
  rw [loop,Option.bind_some,Bt4 (Gs4 h) (by omega),Gr9 h];rfl
def qds (q:Nat):List Int→List Int×Nat
  | []=>([],0)
  | x::l=>(((((qds q l).2*4294967296+x.toNat)/q:Nat):Int)::(qds q l).1,((qds q l).2*4294967296+x.toNat)%q)
theorem Ee9 {q:Nat} (hq:0<q):∀ {l:List Int},Wd l→wv (qds q l).1=wv l/q∧(qds q l).2=wv l%q∧Wd (qds q l).1∧(qds q l).1.length=l.length
  | [],_=>⟨by simp [qds,wv],by simp [qds,wv],Ff7,rfl⟩
  | x::l,h=>by
    obtain ⟨h1,h2,h3,h4⟩:=Ee9 hq (Bg7 h)
    have hx:=Bk5 h
    have hr:wv l%q<q:=Nat.mod_lt _ hq
    have hdm:=Nat.div_add_mod (wv l) q
    have hd:((wv l%q)*4294967296+x.toNat)/q<4294967296:=by
      rw [Nat.div_lt_iff_lt_mul hq]
      have:(wv l%q+1)*4294967296≤q*4294967296:=Nat.mul_le_mul_right _ hr
      omega
    have e:wv (x::l)=q*(4294967296*(wv l/q))+((wv l%q)*4294967296+x.toNat):=by
      show x.toNat+4294967296*wv l=_
      conv=>lhs;rw [← hdm]
      rw [Nat.mul_add,Nat.mul_left_comm];omega
    refine ⟨?_,?_,?_,by simp [qds,h4]⟩
    · rw [e,Nat.mul_add_div hq]
      simp only [qds,wv,h1,h2,Int.toNat_natCast];omega
    · rw [e,Nat.mul_add_mod]
      simp only [qds,h2]
    · simp only [qds,h2]
      generalize (wv l%q*4294967296+x.toNat)/q=y at hd
      exact Cn9 (by omega) (by omega) h3
theorem Gv1 {k:Nat} (v:Int) (l:List Int):(List.replicate (k+1) (0:Int)++l).set k v=List.replicate k 0++v::l:=by
  rw [List.replicate_succ',List.append_assoc,List.set_append_right _ _ (by simp)]
  simp
theorem Ha0 {x:List Int} (h:Wd x) {q:Nat} (hq:0<q) (hq2:q≤4294967296) (hl:x.length≤1099511627776):Bf8 x (q:Int)=some (W (wv x/q),((wv x%q:Nat):Int)):=by
  have hnz:nz (q:Int)=some ():=by unfold nz;rw [if_pos (by omega)]
  have loop:=Ab9 (b:=Ap2 x (q:Int)) (fun j=>(((qds q (x.drop (x.length-j))).2:Int),((x.length-j:Nat):Int)-1,List.replicate (x.length-j) 0++(qds q (x.drop (x.length-j))).1)) (o:=(((qds q x).2:Int),(qds q x).1)) x.length (by rw [Ae6];omega) (fun j hj=>by
    obtain ⟨k,hk⟩:∃ k,x.length-j=k+1:=⟨x.length-j-1,by omega⟩
    have hk':x.length-(j+1)=k:=by omega
    have hkx:k<x.length:=by omega
    have hxk:=Cv7 h k
    have ed:x.drop k=x.getD k 0::x.drop (k+1):=by
      rw [List.drop_eq_getElem_cons hkx,List.getD_eq_getElem?_getD,List.getElem?_eq_getElem hkx];rfl
    have hsp:=Ee9 hq (Fu3 h (k+1))
    have hr:(qds q (x.drop (k+1))).2<q:=by rw [hsp.2.1];exact Nat.mod_lt _ hq
    rw [hk,hk',ed]
    simp only [qds]
    generalize qds q (x.drop (k+1))=Q at *
    generalize hv:x.getD k 0=v at *
    have es:IntKind.u64.wrap (IntKind.u64.wrap (((Q.2:Nat):Int)*4294967296)+v)=((Q.2*4294967296+v.toNat:Nat):Int):=by
      rw [w64,w64];omega
    have e1:((k+1:Nat):Int)-1=(k:Int):=by omega
    unfold Ap2
    dsimp only
    rw [e1,Aa6 (by simp),Ab8 0 hkx,Option.bind_some,hnz,Option.bind_some,Ab8 0 (by simp;omega),Option.bind_some,Option.bind_some,Option.bind_some,hv,es,Int.toNat_natCast,Gv1]
    have e2:IntKind.u64.wrap (((Q.2*4294967296+v.toNat:Nat):Int).tdiv (q:Int))=(((Q.2*4294967296+v.toNat)/q:Nat):Int):=by
      rw [Int.tdiv_eq_ediv_of_nonneg (by omega),← Int.natCast_ediv,Bd2]
      exact Nat.lt_of_le_of_lt (Nat.div_le_self _ _) (by omega)
    have e3:((Q.2*4294967296+v.toNat:Nat):Int).tmod (q:Int)=(((Q.2*4294967296+v.toNat)%q:Nat):Int):=by
      rw [Int.tmod_eq_emod_of_nonneg (by omega),← Int.natCast_emod]
    rw [e2,e3,wrI (n:=(k:Int)-1) (by omega) (by omega)]) (by
    unfold Ap2
    dsimp only
    rw [Aa8 (by simp)]
    simp)
  have loop:Ag0 (Ap2 x (q:Int)) FU (0,((x.length:Nat):Int)-1,List.replicate x.length 0)=some (((qds q x).2:Int),(qds q x).1):=by
    rw [Nat.sub_zero,List.drop_length] at loop
    simpa [qds] using loop
  have hsp:=Ee9 hq h
  unfold Bf8
  rw [Option.bind_some,Bm3 hl,Option.bind_some,Option.bind_some,wrI (by omega) (by omega),loop,Option.bind_some]
  dsimp only
  rw [Ex7 hsp.2.2.1 (by rw [hsp.2.2.2];exact hl),hsp.1,hsp.2.1]
theorem Ej2 {b:Int×Int→Option ((Int×Int)⊕Int)} {r:Nat} (hr:r<32) (hb:∀ a i:Int,b (a,i)=cond (decide (i<(r:Int))) (some (.inl ((IntKind.u64.wrap (2*a)),(IntKind.i64.wrap (i+1))))) (some (.inr a))):Ag0 b FU (1,0)=some ((2^r:Nat):Int):=
  Ab9 (b:=b) (fun i=>(((2^i:Nat):Int),((i:Nat):Int))) r (by rw [Ae6];omega) (fun i hi=>by
    have hp:2^(i+1)≤2^32:=Nat.pow_le_pow_right (by omega) (by omega)
    have e:(2:Int)*((2^i:Nat):Int)=((2^(i+1):Nat):Int):=by rw [Nat.pow_succ];omega
    have h32:(2:Nat)^32=4294967296:=rfl
    rw [hb,Aa6 (by simp;omega),e,Bd2 (by omega),wrU (by omega)]) (by rw [hb,Aa8 (by simp)])
theorem q32 {n:Nat} (hn:n<9223372036854775808):(n:Int).tmod 32=((n%32:Nat):Int)∧IntKind.i64.wrap ((n:Int).tdiv 32)=((n/32:Nat):Int):=by
  refine ⟨by rw [Int.tmod_eq_emod_of_nonneg (by omega)];omega,?_⟩
  rw [Int.tdiv_eq_ediv_of_nonneg (by omega),wrI (by omega) (by omega)];omega
theorem Gy6 (l:List Int) {x:Int} (hx:0≤x):wv (l ++ [x])≠0↔wv l≠0∨x≠0:=by
  rw [Df5]
  have hp:=Ah3 l.length
  have e:wv [x]=x.toNat:=by simp [wv]
  rw [e]
  generalize 4294967296^l.length=P at *
  constructor
  · intro h
    by_cases c:x=0
    · subst c;left;simpa using h
    · exact .inr c
  · rintro (h | h)
    · omega
    · have:0<P*x.toNat:=Nat.mul_pos hp (by omega)
      omega
theorem Ft6 {d:List Int} {n:Nat} (hd:Wd d) (hl:d.length≤1099511627776) (hn:n<9223372036854775808):Ag0 (Ak0 (n:Int) d) FU (false,0)=some (decide (wv (d.take (n/32))≠0)):=by
  obtain ⟨q1,q2⟩:=q32 hn
  have loop:=Ab9 (b:=Ak0 (n:Int) d) (fun i=>(decide (wv (d.take i)≠0),((i:Nat):Int))) (o:=decide (wv (d.take (n/32))≠0)) (min (n/32) d.length) (by rw [Ae6];omega) (fun i hi=>by
    have hid:i<d.length:=by omega
    have hx:=Cv7 hd i
    unfold Ak0
    simp only [Option.bind_some]
    have e:=Gy6 (d.take i) hx.1
    rw [q2,Aa6 (by simp;omega),Aa6 (by simp;omega),wrU (by omega),Bs7 hid]
    by_cases c:wv (d.take i)=0
    · have e':wv (d.take i ++ [d.getD i 0])≠0↔d.getD i 0≠0:=e.trans ⟨fun h=>h.resolve_left fun k=>k c,.inr⟩
      rw [Aa6 (by simp [c]),Ab8 0 hid,Option.bind_some]
      have e2:(d.getD i 0 != 0)=decide (wv (d.take i ++ [d.getD i 0])≠0):=by
        by_cases c2:d.getD i 0=0
        · rw [decide_eq_false fun k=>e'.1 k c2,c2];rfl
        · rw [decide_eq_true (e'.2 c2)];exact bne_iff_ne.2 c2
      rw [e2]
    · rw [Aa8 (by simp [c]),decide_eq_true (e.2 (.inl c))]) (by
    unfold Ak0
    simp only [Option.bind_some]
    rw [q2]
    rcases Nat.lt_or_ge d.length (n/32) with c | c
    · rw [Nat.min_eq_right (by omega),Aa6 (by simp;omega),Aa8 (by simp),List.take_length,List.take_of_length_le (by omega)]
    · rw [Nat.min_eq_left c,Aa8 (by simp)])
  simpa [wv] using loop
theorem Bj7 (k:Nat):(4294967296:Nat)^k=2^(32*k):=by rw [show (4294967296:Nat)=2^32 from rfl,← Nat.pow_mul]
theorem Et9 {l:List Int} {n:Nat} (h:Ld l) (hl:l.length≤1073741824) (hn:n<9223372036854775808):Al1 l (n:Int)=some (LW (lv l/2^n),decide (lv l%2^n≠0)):=by
  obtain ⟨q1,q2⟩:=q32 hn
  have hlt:=Bq5 h
  have hWl:(W (lv l)).length≤2*l.length:=Ba3 (by rw [Bj7];refine Nat.lt_of_lt_of_le hlt (Nat.pow_le_pow_right (by omega) (by omega)))
  have hWd:=Cd3 (lv l)
  generalize hA:lv l=A at *
  unfold Al1
  rw [Bi2 h hl,hA,Option.bind_some,Ft6 hWd (by omega) hn,Option.bind_some,Option.bind_some,q2]
  have hAl:=Ae9 A
  by_cases c:(W A).length≤n/32
  · have hlt2:A<2^n:=by
      rw [Bj7] at hAl
      exact Nat.lt_of_lt_of_le hAl (Nat.pow_le_pow_right (by omega) (by omega))
    rw [Aa6 (by rw [decide_eq_true_eq];omega),List.take_of_length_le c,Bq9,Nat.div_eq_of_lt hlt2,An1,Nat.mod_eq_of_lt hlt2]
  · have hr:n%32<32:=Nat.mod_lt _ (by omega)
    have hdl:wv ((W A).drop (n/32))=A/4294967296^(n/32)∧wv ((W A).take (n/32))=A%4294967296^(n/32):=by
      have h1:wv ((W A).take (n/32))<4294967296^(n/32):=by
        have:=Eo0 (Gg6 hWd (n/32))
        rwa [List.length_take,Nat.min_eq_left (by omega)] at this
      have h2:A=wv ((W A).take (n/32))+4294967296^(n/32)*wv ((W A).drop (n/32)):=by
        have:=Df5 ((W A).take (n/32)) ((W A).drop (n/32))
        rw [List.take_append_drop,Bq9,List.length_take,Nat.min_eq_left (by omega)] at this
        exact this
      have hp:=Ah3 (n/32)
      generalize wv ((W A).take (n/32))=a at *
      generalize wv ((W A).drop (n/32))=b at *
      generalize 4294967296^(n/32)=P at *
      rw [h2,Nat.add_comm]
      exact ⟨by rw [Nat.mul_add_div hp,Nat.div_eq_of_lt h1];omega,by rw [Nat.mul_add_mod,Nat.mod_eq_of_lt h1]⟩
    rw [Aa8 (by rw [decide_eq_false_iff_not];omega),Ej2 (b:=Au9 (n:Int)) hr (fun a i=>by unfold Au9;rw [q1]),Option.bind_some,Option.bind_some,Cd4 (by omega) (by omega),Option.bind_some]
    rw [List.take_of_length_le (by simp),Ha0 (Fu3 hWd _) (Nat.two_pow_pos _) (by
      have:=Nat.pow_le_pow_right (n:=2) (by omega) (show n%32≤32 by omega)
      exact this) (by simp;omega),Option.bind_some]
    dsimp only
    have hm:=Cn8 (show wv ((W A).drop (n/32))/2^(n%32)≤A from Nat.le_trans (Nat.div_le_self _ _) (by rw [hdl.1];exact Nat.div_le_self _ _))
    rw [Cf2 (Cd3 _) (by omega),Bq9,Option.bind_some,hdl.1,hdl.2]
    have e:(2:Nat)^n=4294967296^(n/32)*2^(n%32):=by
      rw [Bj7,← Nat.pow_add];congr 1;omega
    rw [e,← Nat.div_div_eq_div_mul,Nat.mod_mul]
    have hp:=Ah3 (n/32)
    generalize 4294967296^(n/32)=P at *
    generalize A%P=a
    generalize A/P%2^(n%32)=b
    by_cases ca:a=0
    · subst ca
      have:decide (0+P*b≠0)=(((b:Nat):Int) != 0):=by
        by_cases cb:b=0
        · subst cb;simp
        · have h1:P*b≠0:=Nat.mul_ne_zero (by omega) cb
          have h2:((b:Int) != 0)=true:=by simpa using cb
          rw [h2,decide_eq_true];omega
      rw [this];rfl
    · rw [decide_eq_true ca,decide_eq_true (show a+P*b≠0 by omega)];rfl
theorem Fy3 (n k:Nat):(LW n).getD k 0=((n/18446744073709551616^k%18446744073709551616:Nat):Int):=by
  induction k generalizing n with
  | zero=>
    by_cases h:n=0
    · subst h;rw [An1];rfl
    · rw [Bd6 h];simp
  | succ k ih=>
    by_cases h:n=0
    · subst h;rw [An1];simp
    · rw [Bd6 h,List.getD_cons_succ,ih,Nat.div_div_eq_div_mul,Nat.pow_succ,Nat.mul_comm]
theorem Cz9 (k:Nat):(18446744073709551616:Nat)^k=2^(64*k):=by rw [show (18446744073709551616:Nat)=2^64 from rfl,← Nat.pow_mul]
end Go.Eng
/-
  A number of one limb, as the document has it. No condition.
-/
set_option maxRecDepth 100000
set_option maxHeartbeats 400000
set_option exponentiation.threshold 70000
namespace Go.Eng
open Go
theorem Fb9 {x:Nat} (h:x<18446744073709551616):Af7 (x:Int)=some (LW x):=by
  unfold Af7
  have e:lv [(x:Int)]=x:=by unfold lv;simp [lv]
  rw [Option.bind_some,Bt4 (fun y hy=>by rw [List.mem_singleton.1 hy];omega) (by simp),e];rfl
end Go.Eng
/-
  Natural numbers of any length, as the document reckons with them: how many bits, sums, times a power of two. No condition.
-/
set_option maxRecDepth 100000
set_option maxHeartbeats 400000
set_option exponentiation.threshold 70000
namespace Go.Eng
open Go
theorem Gy3 {a:Nat} (h:a≠0):(LW a).length≠0∧(LW a).getD ((LW a).length-1) 0=((a/18446744073709551616^((LW a).length-1):Nat):Int)∧18446744073709551616^((LW a).length-1)≤a:=by
  have h1:(LW a).length≠0:=fun c=>h (Dd2.1 (List.eq_nil_of_length_eq_zero c))
  have hlt:=Gn4 a
  rw [← Cz9] at hlt
  have hpow:(18446744073709551616:Nat)^(LW a).length=18446744073709551616^((LW a).length-1)*18446744073709551616:=by rw [← Nat.pow_succ];congr 1;omega
  have htop:=Gr0 h
  have hg:=Fy3 a ((LW a).length-1)
  have hp:0<18446744073709551616^((LW a).length-1):=Nat.pow_pos (by omega)
  have hlt2:a/18446744073709551616^((LW a).length-1)<18446744073709551616:=by
    rw [Nat.div_lt_iff_lt_mul hp,Nat.mul_comm,← hpow];exact hlt
  rw [Nat.mod_eq_of_lt hlt2] at hg
  refine ⟨h1,hg,?_⟩
  rcases Nat.lt_or_ge a (18446744073709551616^((LW a).length-1)) with c | c
  · rw [Nat.div_eq_of_lt c] at hg
    exact absurd hg htop
  · exact c
theorem Fu6 {c t:Nat} (ht:t<18446744073709551616) (hc:c<4611686018427387904):Ag0 Ak6 FU ((c:Int),(t:Int))=some ((c+blN t:Nat):Int):=by
  have hb:blN t≤64:=An8.2 ht
  have:=Ab9 (b:=Ak6) (fun i=>(((c+i:Nat):Int),((t/2^i:Nat):Int))) (o:=((c+blN t:Nat):Int)) (blN t) (by rw [Ae6];omega) (fun i hi=>by
    have hpos:0<t/2^i:=by
      have h2:2^i≤t:=by
        rcases Nat.lt_or_ge t (2^i) with g | g
        · have:=An8.2 g;omega
        · exact g
      exact Nat.div_pos h2 (Nat.two_pow_pos i)
    unfold Ak6
    dsimp only
    have hle:t/2^i≤t:=Nat.div_le_self _ _
    have e:IntKind.u64.wrap (((t/2^i:Nat):Int).tdiv 2)=((t/2^(i+1):Nat):Int):=by
      rw [Nat.pow_succ,← Nat.div_div_eq_div_mul]
      generalize t/2^i=y at *
      rw [Int.tdiv_eq_ediv_of_nonneg (by omega),w64];omega
    rw [Aa6 (by rw [decide_eq_true_eq];omega),e,wrU (by omega)];rfl) (by
    unfold Ak6
    dsimp only
    rw [Nat.div_eq_of_lt (An8.1 (Nat.le_refl _))];rfl)
  simpa using this
theorem Dd9 {l:List Int} (h:Ld l) (hl:l.length≤1073741824):Ao4 l=some ((blN (lv l):Nat):Int):=by
  have hLl:=Bm4 (Bq5 h)
  unfold Ao4
  rw [Bt4 h (by omega)]
  simp only [Option.bind_some]
  by_cases h0:lv l=0
  · rw [h0,An1];rfl
  · obtain ⟨h1,h2,h3⟩:=Gy3 h0
    have hb:=Fz6 (lv l) (64*((LW (lv l)).length-1)) (by rw [← Cz9];exact h3)
    have hd:lv l/18446744073709551616^((LW (lv l)).length-1)<18446744073709551616:=by
      have:=(Bk1 (lv l)) ((LW (lv l)).getD ((LW (lv l)).length-1) 0) (by rw [List.getD_eq_getElem?_getD,List.getElem?_eq_getElem (by omega)];exact List.getElem_mem _)
      rw [h2] at this;omega
    rw [← Cz9] at hb
    generalize (LW (lv l)).length=k at *
    rw [Aa8 (by rw [beq_eq_false_iff_ne];omega)]
    have e1:IntKind.i64.wrap ((k:Int)-1)=((k-1:Nat):Int):=by rw [wrI (by omega) (by omega)];omega
    have e2:IntKind.i64.wrap (64*((k-1:Nat):Int))=((64*(k-1):Nat):Int):=by rw [wrI (by omega) (by omega)];omega
    rw [e1,e2]
    rw [Ab8 0 (by
      have:=hLl
      rcases Nat.lt_or_ge (k-1) (LW (lv l)).length with c | c
      · exact c
      · rw [List.getD_eq_getElem?_getD,List.getElem?_eq_none c] at h2
        have hz:lv l/18446744073709551616^(k-1)=0:=by
          have:(none:Option Int).getD 0=0:=rfl
          rw [this] at h2;omega
        have:0<lv l/18446744073709551616^(k-1):=Nat.div_pos h3 (Nat.pow_pos (by omega))
        omega),h2,Option.bind_some,Fu6 hd (by omega),Option.bind_some]
    congr 2;omega
theorem El1 {s:Bool} {l:List Int} {e:Int} (h:Ld l) (hl:l.length≤1073741824):Ag6 s l e=some (decide (lv l=0)):=by
  unfold Ag6
  rw [Dd9 h hl,Option.bind_some]
  congr 1
  by_cases c:lv l=0
  · rw [c];rfl
  · have:blN (lv l)≠0:=by unfold blN;rw [if_neg c];omega
    rw [decide_eq_false c,beq_eq_false_iff_ne];omega
theorem Hj2 {s:Bool} {l:List Int} {e:Int} (h:Ld l) (hl:l.length≤1073741824) (h1 : -4611686018427387904≤e) (h2:e≤4611686018427387904):Ax9 s l e=some (e+(blN (lv l):Nat)):=by
  have hb:blN (lv l)≤64*l.length:=An8.2 (Bq5 h)
  unfold Ax9
  rw [Dd9 h hl,Option.bind_some,wrI (by omega) (by omega)]
theorem Fb6 {l:List Int} (h:Wd l) (i:Nat):Av8 l (i:Int)=some ((dg (wv l) i:Nat):Int):=by
  unfold Av8
  rw [Option.bind_some,Hl7 h]
  by_cases c:i<l.length
  · rw [Aa6 (by rw [decide_eq_true_eq];omega),Ab8 0 c];rfl
  · rw [Aa8 (by rw [decide_eq_false_iff_not];omega),List.getD_eq_getElem?_getD,List.getElem?_eq_none (by omega)];rfl
def Dl1 (V k:Nat):List Int:=(List.range k).map fun j=>((dg V j:Nat):Int)
theorem Bd7 (V k:Nat):(Dl1 V k).length=k:=by simp [Dl1]
theorem Cm1 (V k:Nat):Dl1 V k ++ [((dg V k:Nat):Int)]=Dl1 V (k+1):=Ap6
theorem Eb0 (V k:Nat):Wd (Dl1 V k):=by
  intro x hx
  obtain ⟨j,_,rfl⟩:=List.mem_map.1 hx
  have:=Az1 V j
  omega
theorem Fc1 {V k:Nat} (h:V<4294967296^k):wv (Dl1 V k)=V:=Hi4 (Eb0 V k) (by rw [Bd7];exact h) fun j hj=>by
  rw [Bd7] at hj
  unfold Dl1
  simp [List.getD_eq_getElem?_getD,hj]
theorem Fh0 {l m:List Int} (h:Ld l) (k:Ld m) (hl:l.length≤536870912) (hm:m.length≤536870912):Ae2 l m=some (LW (lv l+lv m)):=by
  have hXl:(W (lv l)).length≤2*l.length:=Ba3 (by rw [Bj7];refine Nat.lt_of_lt_of_le (Bq5 h) (Nat.pow_le_pow_right (by omega) (by omega)))
  have hYl:(W (lv m)).length≤2*m.length:=Ba3 (by rw [Bj7];refine Nat.lt_of_lt_of_le (Bq5 k) (Nat.pow_le_pow_right (by omega) (by omega)))
  unfold Ae2
  rw [Bi2 h (by omega),Option.bind_some,Bi2 k (by omega),Option.bind_some]
  generalize lv l=X at *
  generalize lv m=Y at *
  have hX:=Ae9 X
  have hY:=Ae9 Y
  obtain ⟨p,hp⟩:∃ p,p=max (W X).length (W Y).length:=⟨_,rfl⟩
  have hX2:X<4294967296^p:=Nat.lt_of_lt_of_le hX (Nat.pow_le_pow_right (by omega) (by omega))
  have hY2:Y<4294967296^p:=Nat.lt_of_lt_of_le hY (Nat.pow_le_pow_right (by omega) (by omega))
  have hcy:cyA X Y (p+1)=0:=by
    rw [← Ed4,Bk8 hX2,Bk8 hY2]
    have:=Gg5 X Y p
    omega
  have step:∀ i:Nat,i≤p+1→Aj0 (W X) (W Y) (((cyA X Y i:Nat):Int),(i:Int),Dl1 (X+Y) i)=cond (decide (i<p∨0<cyA X Y i)) (some (.inl (((cyA X Y (i+1):Nat):Int),((i+1:Nat):Int),Dl1 (X+Y) (i+1)))) (some (.inr (Dl1 (X+Y) i))):=fun i hi=>by
    have h1:=Az1 X i
    have h2:=Az1 Y i
    have h3:=Gg5 X Y i
    unfold Aj0
    simp only [Option.bind_some]
    have test:(cond (!(decide (((i:Nat):Int)<(((W X).length:Nat):Int)))) (cond (!(decide (((i:Nat):Int)<(((W Y).length:Nat):Int)))) (some (decide (((cyA X Y i:Nat):Int)>0))) (some true)) (some true))=some (decide (i<p∨0<cyA X Y i)):=by
      by_cases c1:i<(W X).length
      · rw [decide_eq_true (p:=((i:Nat):Int)<_) (by omega),decide_eq_true (p:=i<p∨_) (by omega)];rfl
      · rw [decide_eq_false (p:=((i:Nat):Int)<_) (by omega),Bool.not_false,cT]
        by_cases c2:i<(W Y).length
        · rw [decide_eq_true (p:=((i:Nat):Int)<_) (by omega),decide_eq_true (p:=i<p∨_) (by omega)];rfl
        · rw [decide_eq_false (p:=((i:Nat):Int)<_) (by omega),Bool.not_false,cT]
          congr 1
          exact decide_eq_decide.2 ⟨fun g => .inr (by omega),fun g=>by omega⟩
    rw [test,Option.bind_some,Fb6 (Cd3 X),Option.bind_some,Fb6 (Cd3 Y),Option.bind_some,Bq9,Bq9]
    have e1:IntKind.u64.wrap (IntKind.u64.wrap (((dg X i:Nat):Int)+((dg Y i:Nat):Int))+((cyA X Y i:Nat):Int))=((cyA X Y i+dg X i+dg Y i:Nat):Int):=by
      rw [w64,w64];omega
    have e2:((cyA X Y i+dg X i+dg Y i:Nat):Int).tmod 4294967296=((dg (X+Y) i:Nat):Int):=by
      rw [Gb5,Int.tmod_eq_emod_of_nonneg (by omega)];omega
    have e3:IntKind.u64.wrap (((cyA X Y i+dg X i+dg Y i:Nat):Int).tdiv 4294967296)=((cyA X Y (i+1):Nat):Int):=by
      rw [← Ed4,Int.tdiv_eq_ediv_of_nonneg (by omega),w64];omega
    rw [e1,e2,e3,Bg5 (by rw [Bd7];simp;omega),Cm1,wrU (by omega)];rfl
  have loop:∃ n,n≤p+1∧X+Y<4294967296^n∧Ag0 (Aj0 (W X) (W Y)) FU (0,0,[])=some (Dl1 (X+Y) n):=by
    have c0:((cyA X Y 0:Nat):Int)=0:=by unfold cyA;simp [Nat.mod_one]
    have hpow:(4294967296:Nat)^(p+1)=4294967296^p*4294967296:=Nat.pow_succ ..
    by_cases c:cyA X Y p=0
    · refine ⟨p,by omega,?_,?_⟩
      · have:=Es8 X Y p
        rw [Nat.div_eq_of_lt hX2,Nat.div_eq_of_lt hY2,c] at this
        exact (Nat.div_eq_zero_iff_lt (Ah3 p)).1 this
      · have:=Ab9 (b:=Aj0 (W X) (W Y)) (fun i=>(((cyA X Y i:Nat):Int),((i:Nat):Int),Dl1 (X+Y) i)) (o:=Dl1 (X+Y) p) p (by rw [Ae6];omega) (fun i hi=>by
          rw [step i (by omega),Aa6 (by rw [decide_eq_true_eq];omega)]) (by rw [step p (by omega),Aa8 (by rw [decide_eq_false_iff_not];omega)])
        rw [c0] at this
        exact this
    · refine ⟨p+1,by omega,by omega,?_⟩
      have:=Ab9 (b:=Aj0 (W X) (W Y)) (fun i=>(((cyA X Y i:Nat):Int),((i:Nat):Int),Dl1 (X+Y) i)) (o:=Dl1 (X+Y) (p+1)) (p+1) (by rw [Ae6];omega) (fun i hi=>by
        rw [step i (by omega),Aa6 (by
          rw [decide_eq_true_eq]
          rcases Nat.lt_or_ge i p with g | g
          · exact .inl g
          · have:i=p:=by omega
            subst this;omega)]) (by rw [step (p+1) (by omega),Aa8 (by rw [decide_eq_false_iff_not];omega)])
      rw [c0] at this
      exact this
  obtain ⟨n,hn,hlt,hloop⟩:=loop
  rw [hloop,Option.bind_some,Cf2 (Eb0 _ _) (by rw [Bd7];omega),Fc1 hlt];rfl
def cyM (A q i:Nat):Nat:=A%4294967296^i*q/4294967296^i
theorem Go3 (A q i:Nat):(dg A i*q+cyM A q i)/4294967296=cyM A q (i+1):=by
  unfold cyM
  rw [Ah0,Nat.pow_succ,← Nat.div_div_eq_div_mul]
  congr 1
  rw [Nat.add_mul,show dg A i*4294967296^i*q=dg A i*q*4294967296^i by ac_rfl,Nat.add_mul_div_right _ _ (Ah3 i)]
  omega
theorem Ge6 (A q i:Nat):dg (A*q) i=(dg A i*q+cyM A q i)%4294967296:=by
  have e:A*q/4294967296^i=A/4294967296^i*q+cyM A q i:=by
    unfold cyM
    have h:=Nat.div_add_mod A (4294967296^i)
    conv=>lhs;rw [← h]
    rw [Nat.add_mul,Nat.mul_assoc,Nat.mul_add_div (Ah3 i)]
  unfold dg
  rw [e,Nat.add_mod,Nat.mul_mod]
  conv=>rhs;rw [Nat.add_mod,Nat.mul_mod,Nat.mod_mod]
theorem Gr5 {A q i:Nat} (hq:0<q):cyM A q i<q:=by
  unfold cyM
  have:=Nat.mod_lt A (Ah3 i)
  rw [Nat.div_lt_iff_lt_mul (Ah3 i),Nat.mul_comm q]
  exact Nat.mul_lt_mul_of_pos_right this hq
theorem Gc4 {l:List Int} {n:Nat} (h:Ld l) (hl:l.length≤268435456) (hn:n≤1073741824):Ao3 l (n:Int)=some (LW (lv l*2^n)):=by
  have hAl:(W (lv l)).length≤2*l.length:=Ba3 (by rw [Bj7];refine Nat.lt_of_lt_of_le (Bq5 h) (Nat.pow_le_pow_right (by omega) (by omega)))
  obtain ⟨q1,q2⟩:=q32 (n:=n) (by omega)
  unfold Ao3
  rw [Bi2 h (by omega),Option.bind_some,Option.bind_some]
  generalize lv l=A at *
  by_cases h0:A=0
  · subst h0
    rw [At9,Nat.zero_mul,An1];rfl
  · have hr:n%32<32:=Nat.mod_lt _ (by omega)
    have hlen:(W A).length≠0:=fun c=>h0 (Ef1.1 (List.eq_nil_of_length_eq_zero c))
    rw [Aa8 (by rw [beq_eq_false_iff_ne];omega),q2,Bm3 (by omega),Option.bind_some,Ej2 (b:=Ba4 (n:Int)) hr (fun a i=>by unfold Ba4;rw [q1]),Option.bind_some]
    have hq:0<2^(n%32):=Nat.two_pow_pos _
    have hq2:2^(n%32)≤2147483648:=by
      have:=Nat.pow_le_pow_right (n:=2) (by omega) (show n%32≤31 by omega)
      exact this
    have e:A*2^n=4294967296^(n/32)*(A*2^(n%32)):=by
      rw [Bj7,Nat.mul_left_comm,← Nat.pow_add];congr 2;omega
    rw [e]
    have hk:n/32≤33554432:=by omega
    generalize 2^(n%32)=q at *
    generalize n/32=k at *
    have loop:=Ab9 (b:=Ap3 (W A) (q:Int)) (fun i=>(((cyM A q i:Nat):Int),((i:Nat):Int),List.replicate k 0++Dl1 (A*q) i)) (o:=(((cyM A q (W A).length:Nat):Int),List.replicate k 0++Dl1 (A*q) (W A).length)) (W A).length (by rw [Ae6];omega) (fun i hi=>by
      have h1:=Az1 A i
      have h2:=Gr5 (A:=A) (i:=i) hq
      have h3:dg A i*q≤4294967295*2147483648:=Nat.mul_le_mul (by omega) hq2
      unfold Ap3
      simp only [Option.bind_some]
      rw [Aa6 (by rw [decide_eq_true_eq];omega),Bh5 (Cd3 A) hi,Option.bind_some,Bq9]
      have e1:IntKind.u64.wrap (IntKind.u64.wrap (((dg A i:Nat):Int)*(q:Int))+((cyM A q i:Nat):Int))=((dg A i*q+cyM A q i:Nat):Int):=by
        rw [← Int.natCast_mul,Bd2 (by omega),← Int.natCast_add,Bd2 (by omega)]
      have e2:((dg A i*q+cyM A q i:Nat):Int).tmod 4294967296=((dg (A*q) i:Nat):Int):=by
        rw [Ge6]
        generalize dg A i*q+cyM A q i=y
        rw [Int.tmod_eq_emod_of_nonneg (by omega)];omega
      have e3:IntKind.u64.wrap (((dg A i*q+cyM A q i:Nat):Int).tdiv 4294967296)=((cyM A q (i+1):Nat):Int):=by
        rw [← Go3]
        have h4:dg A i*q+cyM A q i<18446744073709551616:=by omega
        generalize dg A i*q+cyM A q i=y at *
        rw [Int.tdiv_eq_ediv_of_nonneg (by omega),w64];omega
      rw [e1,e2,e3,Bg5 (by rw [List.length_append,Bd7];simp;omega),Option.bind_some,List.append_assoc,Cm1,wrU (by omega)]) (by
      unfold Ap3
      simp only [Option.bind_some]
      rw [Aa8 (by simp)])
    have c0:((cyM A q 0:Nat):Int)=0:=by unfold cyM;simp [Nat.mod_one]
    have loop:Ag0 (Ap3 (W A) (q:Int)) FU (0,0,List.replicate k 0)=some (((cyM A q (W A).length:Nat):Int),List.replicate k 0++Dl1 (A*q) (W A).length):=by
      rw [c0] at loop
      simpa [Dl1] using loop
    rw [loop,Option.bind_some]
    dsimp only
    have hA:=Ae9 A
    have ed:cyM A q (W A).length=dg (A*q) (W A).length:=by
      have:=Gr5 (A:=A) (i:=(W A).length) hq
      rw [Ge6,Bk8 hA,Nat.zero_mul,Nat.zero_add,Nat.mod_eq_of_lt (by omega)]
    have hlt:A*q<4294967296^((W A).length+1):=by
      rw [Nat.pow_succ]
      exact Nat.mul_lt_mul'' hA (by omega)
    rw [Option.bind_some,Bg5 (by rw [List.length_append,Bd7];simp;omega),Option.bind_some,ed,List.append_assoc,Cm1,Cf2 (Gf7 (Fg5 k) (Eb0 _ _)) (by rw [List.length_append,Bd7];simp;omega),Df5,Fk7,Fc1 hlt]
    simp
end Go.Eng
/-
  Natural numbers of any length, as the document reckons with them: which is greater, differences. No condition.
-/
set_option maxRecDepth 100000
set_option maxHeartbeats 400000
set_option exponentiation.threshold 70000
namespace Go.Eng
open Go
theorem Dw5 {n k:Nat} (h:k<(LW n).length):atI (LW n) (k:Int)=some ((n/18446744073709551616^k%18446744073709551616:Nat):Int):=by
  rw [Ab8 0 h,Fy3]
theorem Gj5 {l m:List Int} (h:Ld l) (k:Ld m) (hl:l.length≤1073741824) (hm:m.length≤1073741824):Ar2 l m=some (if lv l<lv m then -1 else if lv l=lv m then 0 else 1):=by
  have hal:=Bm4 (Bq5 h)
  have hbl:=Bm4 (Bq5 k)
  unfold Ar2
  rw [Bt4 h (by omega),Bt4 k (by omega)]
  simp only [Option.bind_some]
  generalize lv l=a at *
  generalize lv m=b at *
  by_cases hlen:(LW a).length=(LW b).length
  · rw [Aa8 (by rw [bne_eq_false_iff_eq];omega)]
    generalize hn:(LW a).length=n at *
    rw [wrI (by omega) (by omega)]
    have ha:=Gn4 a
    have hb:=Gn4 b
    rw [hn,← Cz9] at ha
    rw [← hlen,← Cz9] at hb
    have step:∀ j:Nat,j<n→Ai7 (LW a) (LW b) (((n-j:Nat):Int)-1) =
        (if a/18446744073709551616^(n-1-j)%18446744073709551616=b/18446744073709551616^(n-1-j)%18446744073709551616 then some (.inl (((n-(j+1):Nat):Int)-1)) else if a/18446744073709551616^(n-1-j)%18446744073709551616<b/18446744073709551616^(n-1-j)%18446744073709551616 then some (.inr (.inr (-1))) else some (.inr (.inr 1))):=fun j hj=>by
      have e1:((n-j:Nat):Int)-1=((n-1-j:Nat):Int):=by omega
      unfold Ai7
      dsimp only
      rw [e1,Dw5 (n:=a) (by omega),Dw5 (n:=b) (by omega)]
      simp only [Option.bind_some]
      generalize a/18446744073709551616^(n-1-j)%18446744073709551616=x
      generalize b/18446744073709551616^(n-1-j)%18446744073709551616=y
      rw [Aa6 (by rw [decide_eq_true_eq];omega)]
      rcases Nat.lt_trichotomy x y with g | g | g
      · rw [Aa6 (by rw [decide_eq_true_eq];omega),if_neg (by omega),if_pos g]
      · subst g
        rw [Aa8 (by rw [decide_eq_false_iff_not];omega),Aa8 (by rw [decide_eq_false_iff_not];omega),if_pos rfl,wrI (by omega) (by omega)]
        congr 2;omega
      · rw [Aa8 (by rw [decide_eq_false_iff_not];omega),Aa6 (by rw [decide_eq_true_eq];omega),if_neg (by omega),if_neg (by omega)]
    -- the numbers from a place on
    have up:∀ j:Nat,j≤n→(∀ i,i<j→a/18446744073709551616^(n-1-i)%18446744073709551616=b/18446744073709551616^(n-1-i)%18446744073709551616)→a/18446744073709551616^(n-j)=b/18446744073709551616^(n-j):=by
      intro j
      induction j with
      | zero=>intro _ _;rw [Nat.sub_zero,Nat.div_eq_of_lt ha,Nat.div_eq_of_lt hb]
      | succ j ih=>
        intro hj hi
        have h1:=ih (by omega) fun i hi'=>hi i (by omega)
        have h2:=hi j (by omega)
        have e1:n-(j+1)=n-1-j:=by omega
        have e2:n-j=n-1-j+1:=by omega
        rw [e2,Nat.pow_succ,← Nat.div_div_eq_div_mul,← Nat.div_div_eq_div_mul] at h1
        rw [e1]
        generalize a/18446744073709551616^(n-1-j)=x at *
        generalize b/18446744073709551616^(n-1-j)=y at *
        omega
    rcases Az2 (fun j=>decide (a/18446744073709551616^(n-1-j)%18446744073709551616≠b/18446744073709551616^(n-1-j)%18446744073709551616)) n with h0 | ⟨j,hj,h1,h2⟩
    · have hall:∀ i,i<n→a/18446744073709551616^(n-1-i)%18446744073709551616=b/18446744073709551616^(n-1-i)%18446744073709551616:=fun i hi=>by
        have:=h0 i hi
        simpa using this
      have hab:=up n (Nat.le_refl n) hall
      rw [Nat.sub_self,Nat.pow_zero,Nat.div_one,Nat.div_one] at hab
      have loop:=Ab9 (b:=Ai7 (LW a) (LW b)) (fun j=>((n-j:Nat):Int)-1) (o := .inl ()) n (by rw [Ae6];omega) (fun i hi=>by rw [step i hi,if_pos (hall i hi)]) (by
        unfold Ai7
        dsimp only
        rw [Nat.sub_self,Aa8 (by rfl)])
      rw [Nat.sub_zero] at loop
      rw [loop,if_neg (by omega),if_pos hab];rfl
    · have hbef:∀ i,i<j→a/18446744073709551616^(n-1-i)%18446744073709551616=b/18446744073709551616^(n-1-i)%18446744073709551616:=fun i hi=>by
        have:=h2 i hi
        simpa using this
      have hne:a/18446744073709551616^(n-1-j)%18446744073709551616≠b/18446744073709551616^(n-1-j)%18446744073709551616:=by simpa using h1
      have hhi:=up j (by omega) hbef
      have e2:n-j=n-1-j+1:=by omega
      rw [e2,Nat.pow_succ,← Nat.div_div_eq_div_mul,← Nat.div_div_eq_div_mul] at hhi
      have hp:0<18446744073709551616^(n-1-j):=Nat.pow_pos (by omega)
      have loop:=Ab9 (b:=Ai7 (LW a) (LW b)) (fun j=>((n-j:Nat):Int)-1) (o:=if a/18446744073709551616^(n-1-j)%18446744073709551616<b/18446744073709551616^(n-1-j)%18446744073709551616 then .inr (-1) else .inr 1) j (by rw [Ae6];omega) (fun i hi=>by rw [step i (by omega),if_pos (hbef i hi)]) (by
        rw [step j hj,if_neg hne]
        split<;>rfl)
      rw [Nat.sub_zero] at loop
      rw [loop,Option.bind_some]
      have lt_of:∀ x y:Nat,x/18446744073709551616^(n-1-j)<y/18446744073709551616^(n-1-j)→x<y:=fun x y hxy=>by
        rcases Nat.lt_or_ge x y with g | g
        · exact g
        · have:=Nat.div_le_div_right (c:=18446744073709551616^(n-1-j)) g
          omega
      rcases Nat.lt_or_ge (a/18446744073709551616^(n-1-j)%18446744073709551616) (b/18446744073709551616^(n-1-j)%18446744073709551616) with g | g
      · have:=lt_of a b (by
          generalize a/18446744073709551616^(n-1-j)=x at *
          generalize b/18446744073709551616^(n-1-j)=y at *
          omega)
        rw [if_pos g,if_pos this]
      · have:=lt_of b a (by
          generalize a/18446744073709551616^(n-1-j)=x at *
          generalize b/18446744073709551616^(n-1-j)=y at *
          omega)
        rw [if_neg (by omega),if_neg (by omega),if_neg (by omega)]
  · rw [Aa6 (by rw [bne_iff_ne];omega)]
    have key:∀ x y:Nat,(LW x).length<(LW y).length→x<y:=fun x y hxy=>by
      rcases Nat.lt_or_ge x y with g | g
      · exact g
      · have:=Bm4 (Nat.lt_of_le_of_lt g (Gn4 x));omega
    rcases Nat.lt_or_ge (LW a).length (LW b).length with g | g
    · rw [Aa6 (by rw [decide_eq_true_eq];omega),if_pos (key a b g)]
    · have:=key b a (by omega)
      rw [Aa8 (by rw [decide_eq_false_iff_not];omega),if_neg (by omega),if_neg (by omega)]
theorem Fj8 {l m:List Int} (h:Ld l) (k:Ld m) (hl:l.length≤536870912) (hm:m.length≤536870912) (hle:lv m≤lv l):Ai3 l m=some (LW (lv l-lv m)):=by
  have hXl:(W (lv l)).length≤2*l.length:=Ba3 (by rw [Bj7];refine Nat.lt_of_lt_of_le (Bq5 h) (Nat.pow_le_pow_right (by omega) (by omega)))
  unfold Ai3
  rw [Bi2 h (by omega),Option.bind_some,Bi2 k (by omega),Option.bind_some]
  generalize lv l=X at *
  generalize lv m=Y at *
  have hX:=Ae9 X
  have loop:=Ab9 (b:=Am6 (W X) (W Y)) (fun i=>(((boA X Y i:Nat):Int),((i:Nat):Int),Dl1 (X-Y) i)) (o:=Dl1 (X-Y) (W X).length) (W X).length (by rw [Ae6];omega) (fun i hi=>by
    have h1:=Az1 X i
    have h2:=Az1 Y i
    have h3:=Gt2 X Y i
    unfold Am6
    simp only [Option.bind_some]
    rw [Aa6 (by rw [decide_eq_true_eq];omega),Bh5 (Cd3 X) hi,Option.bind_some,Fb6 (Cd3 Y),Option.bind_some,Bq9,Bq9]
    have es:IntKind.u64.wrap (IntKind.u64.wrap (IntKind.u64.wrap (4294967296+((dg X i:Nat):Int))-((dg Y i:Nat):Int))-((boA X Y i:Nat):Int))=4294967296+((dg X i:Nat):Int)-((dg Y i:Nat):Int)-((boA X Y i:Nat):Int):=by
      rw [w64,w64,w64];omega
    have e2:(4294967296+((dg X i:Nat):Int)-((dg Y i:Nat):Int)-((boA X Y i:Nat):Int)).tmod 4294967296=((dg (X-Y) i:Nat):Int):=by
      rw [Gr3 hle,Int.tmod_eq_emod_of_nonneg (by omega)];omega
    have e3:IntKind.u64.wrap (1-(IntKind.u64.wrap ((4294967296+((dg X i:Nat):Int)-((dg Y i:Nat):Int)-((boA X Y i:Nat):Int)).tdiv 4294967296)))=((boA X Y (i+1):Nat):Int):=by
      rw [Fg0,Int.tdiv_eq_ediv_of_nonneg (by omega),w64,w64]
      split<;>omega
    rw [es,e2,e3,Bg5 (by rw [Bd7];simp;omega),Option.bind_some,Cm1,wrU (by omega)]) (by
    unfold Am6
    simp only [Option.bind_some]
    rw [Aa8 (by simp)])
  have c0:((boA X Y 0:Nat):Int)=0:=by unfold boA;simp [Nat.mod_one]
  rw [c0] at loop
  have loop:Ag0 (Am6 (W X) (W Y)) FU (0,0,[])=some (Dl1 (X-Y) (W X).length):=loop
  rw [loop,Option.bind_some,Cf2 (Eb0 _ _) (by rw [Bd7];omega),Fc1 (Nat.lt_of_le_of_lt (Nat.sub_le _ _) hX)];rfl
end Go.Eng
/-
  Natural numbers of any length, as the document reckons with them: products. No condition.
-/
set_option maxRecDepth 100000
set_option maxHeartbeats 400000
set_option exponentiation.threshold 70000
namespace Go.Eng
open Go
theorem Gt9 {x y r:List Int} {i V:Nat} (hx:Wd x) (hy:Wd y) (hi:i<x.length) (hr:Wd r) (hl:r.length=x.length+y.length) (hb:x.length+y.length≤8589934592) (hV:wv r=V) (h0:∀ k,i+y.length≤k→r.getD k 0=0) :
    ∃ o,Ak4 x y ((i:Int),r)=some (.inl (((i+1:Nat):Int),o)) ∧
      Wd o∧o.length=x.length+y.length∧wv o=V+dg (wv x) i*wv y*4294967296^i∧∀ k,i+1+y.length≤k→o.getD k 0=0:=by
  have hxi:=Az1 (wv x) i
  obtain ⟨o,ho,c,r1,rfl,hc,hr1,hl1,hv1,hz1⟩:=Bj2 (b:=Ak3 y x (i:Int)) (fun j s=>∃ (c:Nat) (r1:List Int),s=((c:Int),(j:Int),r1)∧c<4294967296∧Wd r1∧r1.length=x.length+y.length∧wv r1+c*4294967296^(i+j)=V+dg (wv x) i*(wv y%4294967296^j)*4294967296^i∧∀ k,i+y.length≤k→r1.getD k 0=0) y.length (fun o=>∃ (c:Nat) (r1:List Int),o=((c:Int),r1)∧c<4294967296∧Wd r1∧r1.length=x.length+y.length∧wv r1+c*4294967296^(i+y.length)=V+dg (wv x) i*wv y*4294967296^i∧∀ k,i+y.length≤k→r1.getD k 0=0) (by rw [Ae6];omega) (fun j s hj=>by
    rintro ⟨c,r1,rfl,hc,hr1,hl1,hv1,hz1⟩
    unfold Ak3
    simp only [Option.bind_some]
    have hij:i+j<r1.length:=by omega
    have hyj:=Az1 (wv y) j
    have hrij:=Cv7 hr1 (i+j)
    generalize hg:(r1.getD (i+j) 0).toNat=g
    have hg':r1.getD (i+j) 0=(g:Int):=by omega
    have hg2:g<4294967296:=by omega
    have hprod:dg (wv x) i*dg (wv y) j≤4294967295*4294967295:=Nat.mul_le_mul (by omega) (by omega)
    rw [Aa6 (by simp;omega),Bh5 hx hi,Option.bind_some,Bh5 hy hj,Option.bind_some,Dd8 (by omega),Ab8 0 hij]
    simp only [Option.bind_some,Int.toNat_natCast]
    have hS:((c+(dg (wv x) i*dg (wv y) j+g):Nat):Int)=(IntKind.u64.wrap ((IntKind.u64.wrap ((IntKind.u64.wrap (((dg (wv x) i:Nat):Int)*((dg (wv y) j:Nat):Int)))+(g:Int)))+(c:Int))):=by
      rw [← Int.natCast_mul,Bd2 (n:=dg (wv x) i*dg (wv y) j) (by omega),← Int.natCast_add,Bd2 (n:=dg (wv x) i*dg (wv y) j+g) (by omega),← Int.natCast_add,Bd2 (by omega)];omega
    rw [hg',← hS]
    have hm:((c+(dg (wv x) i*dg (wv y) j+g):Nat):Int).tmod 4294967296=(((c+(dg (wv x) i*dg (wv y) j+g))%4294967296:Nat):Int):=by
      rw [Int.tmod_eq_emod_of_nonneg (by omega)];omega
    have hd:IntKind.u64.wrap (((c+(dg (wv x) i*dg (wv y) j+g):Nat):Int).tdiv 4294967296)=(((c+(dg (wv x) i*dg (wv y) j+g))/4294967296:Nat):Int):=by
      rw [Int.tdiv_eq_ediv_of_nonneg (by omega),w64];omega
    rw [hm,hd,wrU (by omega)]
    clear hS hm hd
    refine ⟨_,rfl,(c+(dg (wv x) i*dg (wv y) j+g))/4294967296,_,rfl,by omega,Dw3 hr1 (by omega) (by omega),by rw [List.length_set];exact hl1,?_,fun k hk=>?_⟩
    · have hs:=Du9 (l:=r1) (((c+(dg (wv x) i*dg (wv y) j+g))%4294967296:Nat):Int) hij
      rw [hg,Int.toNat_natCast] at hs
      rw [show i+(j+1)=i+j+1 by omega,Nat.pow_succ,Ah0]
      have hdm:=Nat.div_add_mod (c+(dg (wv x) i*dg (wv y) j+g)) 4294967296
      generalize hS:c+(dg (wv x) i*dg (wv y) j+g)=S at *
      have e1:wv (r1.set (i+j) ((S%4294967296:Nat):Int))+g*4294967296^(i+j)=wv r1+S%4294967296*4294967296^(i+j):=hs
      have e2:S/4294967296*(4294967296^(i+j)*4294967296)+S%4294967296*4294967296^(i+j)=S*4294967296^(i+j):=by
        conv=>rhs;rw [← hdm]
        rw [Nat.add_mul]
        congr 1
        ac_rfl
      have e3:S*4294967296^(i+j)=c*4294967296^(i+j)+dg (wv x) i*dg (wv y) j*4294967296^(i+j)+g*4294967296^(i+j):=by
        rw [← hS,Nat.add_mul,Nat.add_mul];omega
      have e4:dg (wv x) i*(wv y%4294967296^j+dg (wv y) j*4294967296^j)*4294967296^i=dg (wv x) i*(wv y%4294967296^j)*4294967296^i+dg (wv x) i*dg (wv y) j*4294967296^(i+j):=by
        rw [Nat.mul_add,Nat.add_mul,Nat.pow_add]
        congr 1
        ac_rfl
      rw [e4]
      omega
    · rw [List.getD_eq_getElem?_getD,List.getElem?_set_ne (by omega),← List.getD_eq_getElem?_getD]
      exact hz1 k hk) (fun s=>by
    rintro ⟨c,r1,rfl,hc,hr1,hl1,hv1,hz1⟩
    unfold Ak3
    simp only [Option.bind_some]
    rw [Aa8 (by simp)]
    refine ⟨_,rfl,c,r1,rfl,hc,hr1,hl1,?_,hz1⟩
    rw [hv1,Bn8 (Eo0 hy)]) ⟨0,r,rfl,by omega,hr,hl,by rw [hV,Nat.pow_zero,Nat.mod_one];simp,h0⟩
  have ho:Ag0 (Ak3 y x (i:Int)) FU (0,0,r)=some ((c:Int),r1):=ho
  unfold Ak4
  dsimp only
  rw [Option.bind_some,Aa6 (by rw [decide_eq_true_eq];omega),ho,Option.bind_some]
  dsimp only
  have hin:i+y.length<r1.length:=by omega
  rw [Option.bind_some,Dd8 (by omega),Ab8 0 hin]
  simp only [Option.bind_some,Int.toNat_natCast]
  rw [wrU (by omega)]
  refine ⟨_,rfl,Dw3 hr1 (by omega) (by omega),by rw [List.length_set];exact hl1,?_,fun k hk=>?_⟩
  · have hs:=Du9 (l:=r1) ((c:Nat):Int) hin
    rw [hz1 _ (Nat.le_refl _),Int.toNat_natCast] at hs
    simp only [Int.toNat_zero,Nat.zero_mul,Nat.add_zero] at hs
    rw [hs,hv1]
  · rw [List.getD_eq_getElem?_getD,List.getElem?_set_ne (by omega),← List.getD_eq_getElem?_getD]
    exact hz1 k (by omega)
theorem Gm0 {l m:List Int} (h:Ld l) (k:Ld m) (hl:l.length≤536870912) (hm:m.length≤536870912):Bd0 l m=some (LW (lv l*lv m)):=by
  have hXl:(W (lv l)).length≤2*l.length:=Ba3 (by rw [Bj7];refine Nat.lt_of_lt_of_le (Bq5 h) (Nat.pow_le_pow_right (by omega) (by omega)))
  have hYl:(W (lv m)).length≤2*m.length:=Ba3 (by rw [Bj7];refine Nat.lt_of_lt_of_le (Bq5 k) (Nat.pow_le_pow_right (by omega) (by omega)))
  unfold Bd0
  rw [Bi2 h (by omega),Option.bind_some,Bi2 k (by omega),Option.bind_some]
  generalize lv l=a at *
  generalize lv m=b at *
  have pro:Ay0 (W a) (W b)=some (W (a*b)):=by
    unfold Ay0
    rw [Option.bind_some,Option.bind_some,Dd8 (by omega),Bm3 (by omega),Option.bind_some]
    obtain ⟨o,ho,hw,hl,hv⟩:=Bj2 (b:=Ak4 (W a) (W b)) (fun i s=>∃ r,s=((i:Int),r)∧Wd r∧r.length=(W a).length+(W b).length∧wv r=(a%4294967296^i)*b∧∀ k,i+(W b).length≤k→r.getD k 0=0) (W a).length (fun o=>Wd o∧o.length=(W a).length+(W b).length∧wv o=a*b) (by rw [Ae6];omega) (fun i s hi=>by
      rintro ⟨r,rfl,hr,hl,hv,hz⟩
      obtain ⟨o,h1,h2,h3,h4,h5⟩:=Gt9 (Cd3 a) (Cd3 b) hi hr hl (by omega) hv hz
      rw [Bq9,Bq9] at h4
      refine ⟨(((i+1:Nat):Int),o),h1,o,rfl,h2,h3,?_,h5⟩
      rw [h4,Ah0,Nat.add_mul]
      congr 1
      ac_rfl) (fun s=>by
      rintro ⟨r,rfl,hr,hl,hv,hz⟩
      unfold Ak4
      simp only [Option.bind_some]
      rw [Aa8 (by simp)]
      exact ⟨r,rfl,hr,hl,by rw [hv,Bn8 (Ae9 a)]⟩) (s0:=(0,List.replicate ((W a).length+(W b).length) 0)) ⟨_,rfl,Fg5 _,by simp,by rw [Fk7,Nat.pow_zero,Nat.mod_one,Nat.zero_mul],fun k _=>by
        rw [List.getD_eq_getElem?_getD]
        rcases Nat.lt_or_ge k ((W a).length+(W b).length) with hk | hk
        · simp [hk]
        · rw [List.getElem?_eq_none (by simpa using hk)];rfl⟩
    rw [ho,Option.bind_some,Ex7 hw (by omega),hv]
  have hlen:(W (a*b)).length≤4294967296:=by
    have h1:a*b<4294967296^((W a).length+(W b).length):=by
      rw [Nat.pow_add]
      exact Nat.mul_lt_mul'' (Ae9 a) (Ae9 b)
    have:=Ba3 h1
    omega
  rw [pro,Option.bind_some,Cf2 (Cd3 _) hlen,Bq9];rfl
end Go.Eng
