
/-
  Rounding as the document tells it, on the plain side: what girderref02.Rounded answers. No condition.
-/
import Derived.Test.YtgbilchfljlbeaaGreatDoorOf
import Derived.Test.YtgbilchfljlbeaaGreatDoorNr4
set_option linter.all false
set_option maxRecDepth 100000
set_option maxHeartbeats 400000
set_option exponentiation.threshold 70000
namespace Go.Eng
open Go
theorem Fw2 (s:Bool) {f:Nat} {p:Int} (h:Ex f p) (odd:f%2=1):Aw0 s (f:Int) p=some (Ieee.double.nearest s f p,true):=by
  have hlo:=h.lo
  have hhi:=h.hi
  have hlt:=h.lt
  have hlog:=h.log
  have hne:=h.ne
  obtain ⟨f1,f2⟩:=h.frac
  obtain ⟨a1,a2,a3,a4,a5⟩:=Aq8 h
  have hl2:2^f.log2≤f:=Nat.log2_self_le h.ne
  have z:((f:Int)==0)=false:=by rw [beq_eq_false_iff_ne];omega
  have z3:((f:Int).tmod 2==0)=false:=by rw [Int.tmod_eq_emod_of_nonneg (by omega),beq_eq_false_iff_ne];omega
  have small:∀ i,i<52-f.log2→f*2^i<4503599627370496:=fun i hi=>by
    have h1:f*2^i<2^(f.log2+1)*2^i:=Nat.mul_lt_mul_of_pos_right Nat.lt_log2_self (Nat.two_pow_pos _)
    rw [← Nat.pow_add] at h1
    have h2:2^(f.log2+1+i)≤2^52:=Nat.pow_le_pow_right (by omega) (by omega)
    have e52:(2:Nat)^52=4503599627370496:=by decide
    omega
  have step:∀ i:Nat,i<52-f.log2→i<(p+1074).toNat→Ah5 (((f*2^i:Nat):Int),p-(i:Int))=some (.inl (((f*2^(i+1):Nat):Int),p-((i+1:Nat):Int))):=fun i hi hi2=>by
    have hs:=small i hi
    have hpos:0<f*2^i:=Nat.mul_pos (by omega) (Nat.two_pow_pos _)
    have e:f*2^(i+1)=2*(f*2^i):=by rw [Nat.pow_succ,← Nat.mul_assoc,Nat.mul_comm]
    unfold Ah5
    dsimp only
    rw [e]
    generalize f*2^i=g at *
    rw [Aa6 (by rw [bne_iff_ne];omega),Aa6 (by rw [decide_eq_true_eq];omega),Aa6 (by rw [decide_eq_true_eq];omega),show (2:Int)*(g:Int)=((2*g:Nat):Int) by omega,Bd2 (by omega),wrI (by omega) (by omega),show p-(i:Int)-1=p-((i+1:Nat):Int) by omega]
  have key:∃ r:Nat,∃ e:Int,∃ g:Nat,Ag0 Ah5 FU ((f:Int),p)=some ((g:Int),e)∧e≤971 ∧
      (cond (decide ((g:Int)≥4503599627370496)) (some (IntKind.u64.wrap ((IntKind.u64.wrap ((g:Int)-4503599627370496))+(IntKind.u64.wrap ((IntKind.u64.wrap (IntKind.i64.wrap (e+1075)))*2^(min (52:Int).toNat IntKind.u64.bits)))))) (some (g:Int)))=some (Ieee.double.nearest false f p:Int):=by
    by_cases c : -1022≤p+(f.log2:Int)
    · obtain ⟨n1,n2,n3,n4⟩:=Az0 (s:=false) h c
      have:=Ab9 (b:=Ah5) (fun i=>(((f*2^i:Nat):Int),p-(i:Int))) (o:=(((f*2^(52-f.log2):Nat):Int),p-((52-f.log2:Nat):Int))) (52-f.log2) (by rw [Ae6];omega) (fun i hi=>step i hi (by omega)) (by
        unfold Ah5
        dsimp only
        rw [Aa6 (by rw [bne_iff_ne];omega),Aa8 (by rw [decide_eq_false_iff_not];omega)])
      rw [Nat.pow_zero,Nat.mul_one,show p-((0:Nat):Int)=p by omega] at this
      refine ⟨0,_,_,this,by omega,?_⟩
      rw [n1,Ba1]
      unfold nW
      generalize f*2^(52-f.log2)=g at *
      obtain ⟨E,hE⟩:∃ E:Nat,(E:Int)=p+(f.log2:Int)+1022:=⟨(p+(f.log2:Int)+1022).toNat,by omega⟩
      rw [Aa6 (by rw [decide_eq_true_eq];omega),wrI (by omega) (by omega),show p-((52-f.log2:Nat):Int)+1075=((E+1:Nat):Int) by omega,Bd2 (n:=E+1) (by omega),Hh7,show ((E+1:Nat):Int)*2^52=(((E+1)*4503599627370496:Nat):Int) by omega,Bd2 (n:=(E+1)*4503599627370496) (by omega),show (g:Int)-4503599627370496=((g-4503599627370496:Nat):Int) by omega,Bd2 (n:=g-4503599627370496) (by omega),← Int.natCast_add,Bd2 (by omega),← hE]
      refine congrArg some ?_
      rw [Int.toNat_natCast];omega
    · have hv:=small (p+1074).toNat (by omega)
      have hpos:0<f*2^(p+1074).toNat:=Nat.mul_pos (by omega) (Nat.two_pow_pos _)
      have:=Ab9 (b:=Ah5) (fun i=>(((f*2^i:Nat):Int),p-(i:Int))) (o:=(((f*2^(p+1074).toNat:Nat):Int),p-(((p+1074).toNat:Nat):Int))) (p+1074).toNat (by rw [Ae6];omega) (fun i hi=>step i (by omega) hi) (by
        unfold Ah5
        dsimp only
        rw [Aa6 (by rw [bne_iff_ne];omega),Aa6 (by rw [decide_eq_true_eq];omega),Aa8 (by rw [decide_eq_false_iff_not];omega)])
      rw [Nat.pow_zero,Nat.mul_one,show p-((0:Nat):Int)=p by omega] at this
      refine ⟨0,_,_,this,by omega,?_⟩
      have ev:Ieee.double.nearest false f p=f*2^(p+1074).toNat:=Dx6 (by rw [a5];unfold Bq8;rw [if_pos hv])
      rw [ev,Aa8 (by rw [decide_eq_false_iff_not];omega)]
  obtain ⟨_,e,g,k1,k2,k3⟩:=key
  unfold Aw0
  rw [decide_eq_false (p:=(f:Int)≥9007199254740992) (by omega),Bool.not_false,cT,decide_eq_false (p:=p < -1074) (by omega),Bool.not_false,cT,decide_eq_false (p:=p>1023) (by omega),Bool.not_false,cT,z,z3,show (!(!((false:Bool)==false)))=true from rfl,cT,cF,Option.bind_some,cF,k1,Option.bind_some]
  dsimp only
  rw [Aa8 (by rw [decide_eq_false_iff_not];omega),k3,Option.bind_some]
  unfold Ab1
  rw [Eq1 (s:=s) h]
  generalize Ieee.double.nearest false f p=r at *
  cases s with
  | false=>rw [cF,Option.bind_some,Option.bind_some,Int.toNat_natCast,Bz4 (by omega)];simp
  | true=>
    rw [cT,show (r:Int)+9223372036854775808=((9223372036854775808+r:Nat):Int) by omega,Bd2 (by omega),Option.bind_some,Option.bind_some,Int.toNat_natCast,Bz4]
    · rfl
    · unfold Ab2;omega
theorem Fq1 (s:Bool):Aw0 s 0 0=some (Ieee.double.word s 0,true):=by cases s<;>decide +kernel
theorem Gg1 (s:Bool):Aw0 s 9007199254740991 971=some (Ieee.double.word s 9218868437227405311,true):=by
  have h:Ex 9007199254740991 971:=⟨by decide,by decide,by decide,by decide⟩
  have:=Fw2 s h (by decide)
  have e:Ieee.double.nearest s 9007199254740991 971=Ieee.double.word s 9218868437227405311:=by cases s<;>decide +kernel
  rw [e] at this
  exact this
theorem Gl1 (s:Bool):fdiv (if s then nf 13830554455654793216 else nf 4607182418800017408) (nf 0)=Ieee.double.word s 9218868437227405312:=by cases s<;>decide +kernel
theorem Hf4 (m:Int) (s:Bool):Bm2 m s=some (Gj2 m s):=by
  unfold Bm2
  rw [Gg1,Option.bind_some]
  dsimp only
  have e1:=Gl1 s
  unfold Gj2
  by_cases m3:m=3
  · subst m3;rw [if_pos (.inl rfl)]
    cases s<;>rfl
  · have n3:(m==3)=false:=by rw [beq_eq_false_iff_ne];exact m3
    rw [n3]
    by_cases m1:m=1
    · subst m1
      cases s with
      | false=>rfl
      | true=>
        simp only [if_true] at e1
        rw [cT,Option.bind_some]
        simp only [Bool.not_false,cT,Bool.not_true,show ((1:Int)==1)=true from rfl,show ((1:Int)==2)=false from rfl,cF,Option.bind_some,e1]
        rfl
    · have n1:(m==1)=false:=by rw [beq_eq_false_iff_ne];exact m1
      rw [n1]
      by_cases m2:m=2
      · subst m2
        cases s with
        | true=>rfl
        | false=>
          simp only [Bool.false_eq_true,if_false] at e1
          rw [cF,Option.bind_some]
          simp only [Bool.not_false,cT,show ((2:Int)==2)=true from rfl,cF,Option.bind_some,e1]
          rfl
      · have n2:(m==2)=false:=by rw [beq_eq_false_iff_ne];exact m2
        rw [n2,if_neg (by omega)]
        cases s with
        | true=>
          simp only [if_true] at e1
          simp only [cT,cF,Bool.not_false,Option.bind_some,e1]
        | false=>
          simp only [Bool.false_eq_true,if_false] at e1
          simp only [cT,cF,Bool.not_false,Option.bind_some,e1]
theorem Gf2 {y:Nat} {last:Int} {i:Nat} (h0:y≠0) (hy:y<18446744073709551616) (he:y%2=0) (h1 : -1074≤last) (h2:last+(i:Int)≤4000000):Ai5 ((y:Int),last+(i:Int))=some (.inl (((y/2:Nat):Int),last+((i+1:Nat):Int))):=by
  have t1:(y:Int).tmod 2=0:=by rw [Int.tmod_eq_emod_of_nonneg (by omega)];omega
  have t2:IntKind.u64.wrap ((y:Int).tdiv 2)=((y/2:Nat):Int):=by rw [Int.tdiv_eq_ediv_of_nonneg (by omega),w64];omega
  unfold Ai5
  dsimp only
  rw [Aa6 (by rw [decide_eq_true_eq];omega),t1,Aa6 (by rfl),t2,wrI (by omega) (by omega),show last+(i:Int)+1=last+((i+1:Nat):Int) by omega]
theorem Gp6 {y:Nat} {e:Int} (h0:y%2=1):Ai5 ((y:Int),e)=some (.inr ((y:Int),e)):=by
  have t1:(y:Int).tmod 2=1:=by rw [Int.tmod_eq_emod_of_nonneg (by omega)];omega
  unfold Ai5
  dsimp only
  rw [Aa6 (by rw [decide_eq_true_eq];omega),t1,Aa8 (by rfl)]
theorem Gn7 (s:Bool) {size:Nat} {last:Int} (hs:size≤9007199254740992) (h1 : -1074≤last) (h2:(blN size:Int)+last≤1024):Bh0 s (size:Int) last=some (Ieee.double.nearest s size last):=by
  unfold Bh0
  by_cases c0:size=0
  · subst c0
    rw [Ej0,Aa6 (by rfl),Option.bind_some]
    have e:Ag0 Ai5 FU (((0:Nat):Int),0)=some (0,0):=by decide +kernel
    rw [e,Option.bind_some]
    dsimp only
    rw [Fq1];rfl
  · obtain ⟨k1,k2⟩:=Dj5 c0
    obtain ⟨_,_,k3⟩:=Bv5 c0
    have htl:=Dt5 c0
    have hbl:blN size≤54:=An8.2 (by
        have:(2:Nat)^54=18014398509481984:=by decide
        omega)
    have hf0:size/2^tzN size≠0:=by omega
    have hb2:blN size=blN (size/2^tzN size)+tzN size:=by
      conv=>lhs;rw [k1]
      exact Bf5 _ _ hf0
    have hflt:size/2^tzN size<9007199254740992:=by
      have:=Nat.div_le_self size (2^tzN size)
      rcases Nat.lt_or_ge (size/2^tzN size) 9007199254740992 with g | g
      · exact g
      · omega
    have ev:Ieee.double.nearest s size last=Ieee.double.nearest s (size/2^tzN size) (last+(tzN size:Int)):=by
      conv=>lhs;rw [k1]
      exact Ax2 s hf0 last _
    have hpos:∀ i,i≤tzN size→size/2^i≠0:=fun i hi g=>by
      have:size/2^tzN size≤size/2^i:=Nat.div_le_div_left (Nat.pow_le_pow_right (by omega) hi) (Nat.two_pow_pos _)
      rw [g] at this
      exact hf0 (Nat.le_zero.1 this)
    have hbig:∀ i,i<tzN size→last+(i:Int)≤4000000:=fun i hi=>by
      clear k1 k2 k3 hb2 hflt hf0 ev hpos
      omega
    have loop:=Ab9 (b:=Ai5) (fun i=>(((size/2^i:Nat):Int),last+(i:Int))) (o:=(((size/2^tzN size:Nat):Int),last+(tzN size:Int))) (tzN size) (by rw [Ae6];omega) (fun i hi=>by
      have e:size/2^(i+1)=size/2^i/2:=by rw [Nat.pow_succ,← Nat.div_div_eq_div_mul]
      rw [e]
      exact Gf2 (hpos i (Nat.le_of_lt hi)) (Nat.lt_of_le_of_lt (Nat.div_le_self _ _) (Nat.lt_of_le_of_lt hs (by decide))) (k3 i hi) h1 (hbig i hi)) (Gp6 k2)
    rw [Nat.pow_zero,Nat.div_one,show last+((0:Nat):Int)=last by omega] at loop
    rw [Aa8 (by rw [beq_eq_false_iff_ne];omega),Option.bind_some,loop,Option.bind_some,ev]
    dsimp only
    generalize size/2^tzN size=f at *
    generalize tzN size=t at *
    have hb:=Fb0 hf0
    have hx:Ex f (last+(t:Int)):=⟨hf0,hflt,by omega,by omega⟩
    rw [Fw2 s hx k2];rfl
theorem Hs8 (m:Int) (s:Bool) (half:Int) (odd:Bool):Ax3 m s half odd=some (Eu9 m s half odd):=Gr4 m s half odd
theorem Fg1 (x:Nat) {β:Type} (f:Bool→Option β):(cond (decide ((((LW x).length:Nat):Int)>0)) ((atI (LW x) 0).bind fun t=>some (t.tmod 2==1)) (some false)).bind f=f (x%2==1):=by
  by_cases h:x=0
  · subst h;rw [An1];rfl
  · rw [Bd6 h]
    have e0:atI (((x%18446744073709551616:Nat):Int)::LW (x/18446744073709551616)) 0=some ((x%18446744073709551616:Nat):Int):=rfl
    rw [e0,Aa6 (by rw [decide_eq_true_eq,List.length_cons];omega),Option.bind_some,Option.bind_some,Int.tmod_eq_emod_of_nonneg (by omega)]
    congr 1
    rw [Bool.eq_iff_iff,beq_iff_eq,beq_iff_eq];omega
theorem Fp7 {s:Bool} {l:List Int} {e m:Int} (h:Ld l) (hl:l.length≤134217728) (h0:lv l≠0) (he1 : -1152921504606846976≤e) (he2:e≤1152921504606846976) :
      (cond (decide (e≥rL (lv l) e))
          ((Ao3 l (IntKind.i64.wrap (e-rL (lv l) e))).bind fun t4=>
            some t4)
          ((Al1 l (IntKind.i64.wrap (rL (lv l) e-e))).bind fun o=>match o with
            | (t5,t6)=>
            (cond t6
                ((Al1 l (IntKind.i64.wrap ((IntKind.i64.wrap (rL (lv l) e-e))-1))).bind fun o=>match o with
                  | (t8,t9)=>
                  ((some ((t8.length:Nat):Int)).bind fun t11=>
                    cond (decide (t11>0))
                      ((atI t8 0).bind fun t12=>
                        some ((t12.tmod 2)==1))
                      (some false)).bind fun t10=>
                  (cond t10
                      ((cond t9
                            (some 1)
                            (some 0)).bind fun t14=>
                        some t14)
                      (some (-1))).bind fun t13=>
                  (some ((t5.length:Nat):Int)).bind fun t15=>
                  cond (decide (t15>0))
                    ((atI t5 0).bind fun t16=>
                      (Ax3 m s t13 ((t16.tmod 2)==1)).bind fun t17=>
                      (cond t17
                          ((Af7 1).bind fun t19=>
                            (Ae2 t5 t19).bind fun t20=>
                            some t20)
                          (some t5)).bind fun t18=>
                      some t18)
                    ((Ax3 m s t13 false).bind fun t21=>
                      (cond t21
                          ((Af7 1).bind fun t23=>
                            (Ae2 t5 t23).bind fun t24=>
                            some t24)
                          (some t5)).bind fun t22=>
                      some t22))
                (some t5)).bind fun t7=>
            some t7))=some (LW (rS s (lv l) e m)):=by
  have hb:blN (lv l)≤64*l.length:=An8.2 (Bq5 h)
  have hL : -1074≤rL (lv l) e∧rL (lv l) e≤1152921513196781568:=by unfold rL;omega
  have hL2:e+(blN (lv l):Int)-53≤rL (lv l) e:=by unfold rL;omega
  have hLl:=Bm4 (Bq5 h)
  have hle:=Gl8 s e m h0
  unfold rS at *
  generalize hn:lv l=n at *
  by_cases c:rL n e≤e
  · obtain ⟨d,hd⟩:∃ d:Nat,e-rL n e=d:=⟨(e-rL n e).toNat,by omega⟩
    rw [Aa6 (by rw [decide_eq_true_eq];omega),if_pos c,wrI (by omega) (by omega),hd,Gc4 h (by omega) (by omega),hn,Int.toNat_natCast];rfl
  · obtain ⟨d,hd⟩:∃ d:Nat,rL n e-e=(d+1:Nat):=⟨(rL n e-e).toNat-1,by omega⟩
    rw [if_neg c] at hle ⊢
    rw [Aa8 (by rw [decide_eq_false_iff_not];omega),wrI (n:=rL n e-e) (by omega) (by omega),hd,Et9 h (by omega) (by omega),hn,Option.bind_some]
    rw [hd,Int.toNat_natCast] at hle
    rw [Int.toNat_natCast,wrI (n:=((d+1:Nat):Int)-1) (by omega) (by omega),show ((d+1:Nat):Int)-1=(d:Int) by omega,Et9 h (by omega) (by omega),hn]
    dsimp only
    have hq:n/2^(d+1)≤Fm9 s n (d+1) m:=Nat.le_add_right _ _
    have hqn:n/2^(d+1)≤n:=Nat.div_le_self _ _
    have hqlen:(LW (n/2^(d+1))).length≤l.length:=Bm4 (Nat.lt_of_le_of_lt hqn (by rw [← hn];exact Bq5 h))
    -- the half
    have hhalf:((cond (n/2^d%2==1) ((cond (decide (n%2^d≠0)) (some (1:Int)) (some 0)).bind fun t14=>some t14) (some (-1))))=some (Ci8 n (d+1)):=by
      have e1:n%2^(d+1)=n%2^d+2^d*(n/2^d%2):=by rw [Nat.pow_succ,Nat.mod_mul]
      have e2:n%2^d<2^d:=Nat.mod_lt _ (Nat.two_pow_pos _)
      have hp2:2^(d+1)=2*2^d:=by rw [Nat.pow_succ,Nat.mul_comm]
      unfold Ci8
      rw [e1,hp2]
      have hb2:n/2^d%2<2:=Nat.mod_lt _ (by omega)
      clear hq hqn hqlen hle
      generalize n%2^d=r at *
      generalize n/2^d%2=b at *
      generalize 2^d=P at *
      by_cases hb1:b=1
      · subst hb1
        rw [Nat.mul_one,Aa6 (by rfl),if_neg (by omega)]
        by_cases hr:r=0
        · rw [decide_eq_false (fun k=>k hr),cF,if_pos (by omega)];rfl
        · rw [decide_eq_true hr,cT,if_neg (by omega)];rfl
      · have hb0:b=0:=by clear e1;omega
        subst hb0
        rw [Nat.mul_zero,Aa8 (by rfl),if_pos (by omega)]
    have one:Af7 1=some (LW 1):=Fb9 (x:=1) (by omega)
    have add:Ae2 (LW (n/2^(d+1))) (LW 1)=some (LW (n/2^(d+1)+1)):=by
      have h1:(LW 1).length≤1:=Bm4 (by decide)
      rw [Fh0 (Bk1 _) (Bk1 _) (by omega) (by omega),Av6,Av6]
    unfold Fm9 at *
    by_cases hr:n%2^(d+1)=0
    · rw [decide_eq_false (fun k=>k hr),cF,if_neg (fun k=>k.1 hr)];rfl
    · rw [decide_eq_true hr,cT,Option.bind_some]
      dsimp only
      rw [Option.bind_some,Fg1,hhalf,Option.bind_some,Option.bind_some]
      have tail:(cond (decide ((((LW (n/2^(d+1))).length:Nat):Int)>0))
            ((atI (LW (n/2^(d+1))) 0).bind fun t16=>(Ax3 m s (Ci8 n (d+1)) ((t16.tmod 2)==1)).bind fun t17=>(cond t17 ((Af7 1).bind fun t19=>(Ae2 (LW (n/2^(d+1))) t19).bind fun t20=>some t20) (some (LW (n/2^(d+1))))).bind fun t18=>some t18)
            ((Ax3 m s (Ci8 n (d+1)) false).bind fun t21=>(cond t21 ((Af7 1).bind fun t23=>(Ae2 (LW (n/2^(d+1))) t23).bind fun t24=>some t24) (some (LW (n/2^(d+1))))).bind fun t22=>some t22)) = 
          some (LW (n/2^(d+1)+if Eu9 m s (Ci8 n (d+1)) (n/2^(d+1)%2==1)=true then 1 else 0)):=by
        have:=Fg1 (n/2^(d+1)) (fun b=>(Ax3 m s (Ci8 n (d+1)) b).bind fun t17=>(cond t17 ((Af7 1).bind fun t19=>(Ae2 (LW (n/2^(d+1))) t19).bind fun t20=>some t20) (some (LW (n/2^(d+1))))).bind fun t18=>some t18)
        have e:∀ (c:Bool) (o:Option Int) (f:Bool→Option (List Int)),(cond c (o.bind fun t16=>f (t16.tmod 2==1)) (f false))=(cond c (o.bind fun t=>some (t.tmod 2==1)) (some false)).bind f:=fun c o f=>by
          cases c
          · rfl
          · cases o<;>rfl
        rw [e _ _ (fun b=>(Ax3 m s (Ci8 n (d+1)) b).bind fun t17=>(cond t17 ((Af7 1).bind fun t19=>(Ae2 (LW (n/2^(d+1))) t19).bind fun t20=>some t20) (some (LW (n/2^(d+1))))).bind fun t18=>some t18),this,Hs8,Option.bind_some,one]
        cases Eu9 m s (Ci8 n (d+1)) (n/2^(d+1)%2==1) with
        | false=>rfl
        | true=>rw [cT,Option.bind_some,add];rfl
      rw [tail,Option.bind_some]
      congr 2
      cases Eu9 m s (Ci8 n (d+1)) (n/2^(d+1)%2==1) with
      | false=>rw [if_neg (by simp),if_neg (by simp)]
      | true=>rw [if_pos rfl,if_pos ⟨hr,rfl⟩]
theorem Gf4 {s:Bool} {l:List Int} {e m:Int} (h:Ld l) (hl:l.length≤134217728) (he1 : -1152921504606846976≤e) (he2:e≤1152921504606846976):At4 s l e m=some (rF s (lv l) e m):=by
  have hb:blN (lv l)≤64*l.length:=An8.2 (Bq5 h)
  unfold At4 rF
  rw [El1 h (by omega),Option.bind_some]
  by_cases h0:lv l=0
  · rw [decide_eq_true h0,cT,if_pos h0,Ah1]
  · have hL : -1074≤rL (lv l) e∧rL (lv l) e≤1152921513196781568:=by unfold rL;omega
    have eL:max (e+(blN (lv l):Int)-53) (-1074)=rL (lv l) e:=rfl
    have hle:=Gl8 s e m h0
    have hz:=fun g=>Fu0 (s:=s) (e:=e) (m:=m) h0 g
    have hbS:blN (rS s (lv l) e m)≤54:=An8.2 (Nat.lt_of_le_of_lt hle (by decide))
    have hSl:(LW (rS s (lv l) e m)).length≤1:=LW_len' (k:=54) (An8.1 hbS) (by omega)
    rw [decide_eq_false h0,cF,if_neg h0,Hj2 h (by omega) (by omega) (by omega),Option.bind_some,wrI (n:=e+(blN (lv l):Int)-53) (by omega) (by omega),maxI',eL,Fp7 (s:=s) (m:=m) h hl h0 he1 he2,Option.bind_some]
    generalize rS s (lv l) e m=S at *
    generalize rL (lv l) e=L at *
    rw [Dd9 (Bk1 S) (by omega),Av6,Option.bind_some,wrI (by omega) (by omega)]
    unfold Hf8
    by_cases c:1024<(blN S:Int)+L
    · rw [Aa6 (by rw [decide_eq_true_eq];exact c),if_pos c,Hf4];rfl
    · rw [Aa8 (by rw [decide_eq_false_iff_not];exact c),if_neg c,Option.bind_some]
      have first:(cond (decide ((((LW S).length:Nat):Int)>0)) ((atI (LW S) 0).bind fun t29=>some t29) (some 0))=some (S:Int):=by
        by_cases s0:S=0
        · subst s0;rw [An1];rfl
        · rw [Fu7 s0 (by omega)];rfl
      rw [first,Option.bind_some,Gn7 s hle hL.1 (by omega)];rfl
end Go.Eng
