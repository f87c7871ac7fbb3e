
/-
  Dyads on the plain side: tops. No condition.
-/
import Derived.Test.YtgbilchfljlbeaaGreatDoorDy2
import Derived.Test.YtgbilchfljlbeaaGreatDoorFe
import Derived.Test.YtgbilchfljlbeaaGreatDoorOpp
set_option linter.all false
set_option maxRecDepth 100000
set_option maxHeartbeats 400000
set_option exponentiation.threshold 70000
namespace Go.Eng
open Go
theorem Hd9 {m:Nat} (h:m≠0):blN m=64*((LW m).length-1)+blN ((LW m).getD ((LW m).length-1) 0).toNat:=by
  induction m using Ep0 with
  | h0=>exact absurd rfl h
  | h n h0 ih=>
    by_cases c:n/18446744073709551616=0
    · have hn:n<18446744073709551616:=by omega
      rw [Bd6 h0,c,An1]
      simp
      congr 1
      omega
    · have ih:=ih c
      have hl:LW (n/18446744073709551616) ≠ []:=fun c'=>c (Dd2.1 c')
      have hlen:=List.length_pos_iff.2 hl
      rw [Bd6 h0,List.length_cons]
      have e1:((n%18446744073709551616:Nat):Int)::LW (n/18446744073709551616)=((n%18446744073709551616:Nat):Int)::LW (n/18446744073709551616):=rfl
      have e2:(((n%18446744073709551616:Nat):Int)::LW (n/18446744073709551616)).getD ((LW (n/18446744073709551616)).length+1-1) 0=(LW (n/18446744073709551616)).getD ((LW (n/18446744073709551616)).length-1) 0:=by
        obtain ⟨k,hk⟩:∃ k,(LW (n/18446744073709551616)).length=k+1:=⟨(LW (n/18446744073709551616)).length-1,by omega⟩
        rw [hk];simp
      rw [e2]
      have e3:blN n=blN (n/18446744073709551616)+64:=by
        have lo:(n/18446744073709551616).log2+64=n.log2:=by
          have h1:=Nat.log2_self_le c
          have h2:=@Nat.lt_log2_self (n/18446744073709551616)
          symm
          rw [Nat.log2_eq_iff h0]
          constructor
          · rw [Nat.pow_add,show (2:Nat)^64=18446744073709551616 by decide]
            exact Nat.le_trans (Nat.mul_le_mul_right _ h1) (Nat.div_mul_le_self _ _)
          · rw [show (n/18446744073709551616).log2+64+1=((n/18446744073709551616).log2+1)+64 by omega,Nat.pow_add,show (2:Nat)^64=18446744073709551616 by decide]
            exact (Nat.div_lt_iff_lt_mul (by omega)).1 h2
        unfold blN
        rw [if_neg h0,if_neg c];omega
      rw [e3,ih];omega
theorem Hg5 {s:Bool} {l:List Int} {e:Int} (h:Gd s l e) (h0:zD s l≠0):Bl4 s l e=some (e+(blN (lv l):Int)):=by
  have hb:=h.ld
  rcases h with ⟨h1,_,_⟩ | ⟨m,h1,rfl,h3,h4,h5⟩
  · subst h1;exact absurd (by unfold zD sgN lv;cases s<;>rfl) h0
  · have hm:m≠0:=by omega
    have hl:LW m ≠ []:=fun c=>hm (Dd2.1 c)
    have hlen:=List.length_pos_iff.2 hl
    have hbl:=Hd9 hm
    have hx:=hb.1 ((LW m).getD ((LW m).length-1) 0) (by rw [List.getD_eq_getElem?_getD,List.getElem?_eq_getElem (by omega)];exact List.getElem_mem _)
    have h256:=hb.2.1
    rw [Av6]
    unfold Bl4
    rw [Option.bind_some,wrI (n:=((LW m).length:Int)-1) (by omega) (by omega)]
    have ei:(((LW m).length:Nat):Int)-1=(((LW m).length-1:Nat):Int):=by omega
    rw [ei,Ab8 0 (by omega),Option.bind_some]
    generalize (LW m).getD ((LW m).length-1) 0=x at *
    unfold Ae5
    rw [Aa6 (by simp;omega),Option.bind_some]
    generalize blN x.toNat=b at *
    rw [wrI (n:=64*(((LW m).length-1:Nat):Int)) (by omega) (by omega),wrI (n:=e+64*(((LW m).length-1:Nat):Int)) (by omega) (by omega),wrI (by omega) (by omega)]
    congr 1;omega
end Go.Eng
/-
  Floats and dyads on the plain side: a float's parts, the float of parts, the dyad of a float. No condition.
-/
set_option maxRecDepth 100000
set_option maxHeartbeats 400000
set_option exponentiation.threshold 70000
namespace Go.Eng
open Go
theorem Bz4 {x:Nat} (h:Ab2 x≤9218868437227405312):nf x=x:=Ac3 (by rw [Ad0];simp;omega)
theorem Gw5 {x:Nat} (h:Ab2 x≤9218868437227405312):Af9 x=some (Ab2 x):=by
  show some (nf (Ab2 x))=_
  rw [Bz4 (by rw [Ap1];exact h)]
theorem Gp3 {x:Nat} (h:Ab2 x≤9218868437227405312):Af4 x 0=some (decide (Ab2 x=9218868437227405312)):=by
  unfold Af4
  have e:nf 9218868437227405311=9218868437227405311:=by decide +kernel
  simp only [Gw5 h,Option.bind_some,beq_self_eq_true,cT,Dr9,e]
theorem Fe0 {x:Nat} (h:Ab2 x≤9218868437227405312):Af3 x=some false:=by
  unfold Af3
  rw [Bw0,Ad0,decide_eq_false (by omega)];rfl
theorem Fw7 {x:Nat} (h:Ab2 x≤9218868437227405312):Ac4 x=some (x:Int):=by
  unfold Ac4
  rw [Ad0,decide_eq_false (by omega)];rfl
theorem Ff5 (x:Nat):feq x (nf 0)=decide (Ab2 x=0):=by rw [Ah1,Bj0]
theorem Ge5 (x:Nat):∃ k:Int,Bg1 x=some k∧decide (k>2)=decide (¬ Ab2 x<9218868437227405312):=by
  unfold Bg1
  have e0:Af9 x=some (nf (Ab2 x)):=rfl
  rw [e0,Option.bind_some,Option.bind_some,Bw0,Ad0,Bool.not_not]
  by_cases c:9218868437227405312<Ab2 x
  · rw [decide_eq_true c,cT]
    exact ⟨4,rfl,by rw [decide_eq_true (show (4:Int)>2 by decide),decide_eq_true (by omega)]⟩
  · rw [decide_eq_false c,cF,Gp3 (by omega),Option.bind_some]
    by_cases c2:Ab2 x=9218868437227405312
    · rw [decide_eq_true c2,cT]
      exact ⟨3,rfl,by rw [decide_eq_true (show (3:Int)>2 by decide),decide_eq_true (by omega)]⟩
    · rw [decide_eq_false c2,cF,Option.bind_some]
      have hr:decide (¬ Ab2 x<9218868437227405312)=false:=decide_eq_false (by omega)
      rw [hr]
      cases (fgt (nf (Ab2 x)) (nf 4503599627370496)||feq (nf (Ab2 x)) (nf 4503599627370496)) with
      | true=>exact ⟨2,rfl,rfl⟩
      | false=>
        rw [cF,Option.bind_some]
        cases fgt (nf (Ab2 x)) (nf 0) with
        | true=>exact ⟨1,rfl,rfl⟩
        | false=>exact ⟨0,rfl,rfl⟩
theorem Fm0 {r:Nat} (h:r<9218868437227405312):flt r (nf 4503599627370496)=decide (r<4503599627370496):=by
  have e:nf 4503599627370496=4503599627370496:=by decide +kernel
  have g1:Ao9 r:=by unfold Ao9;omega
  have g2:Ao9 4503599627370496:=by unfold Ao9;omega
  rw [e]
  unfold flt
  rw [Bw4 g1 g2]
  rcases Nat.lt_trichotomy r 4503599627370496 with c | c | c
  · rw [decide_eq_true c,Nat.compare_eq_lt.2 c];rfl
  · subst c;rfl
  · rw [decide_eq_false (by omega),Nat.compare_eq_gt.2 c];rfl
theorem Gh7:Ieee.double.read 4841369599423283200 = .number false 4503599627370496 ((52:Int)-52):=by decide +kernel
theorem Df2 {f:Nat} {p:Int} (h:Ex f p):∃ q:Int,∃ d:Int,Aj7 (Ieee.double.nearest false f p)=some (Ieee.double.nearest false f q,d)∧q+d=p∧Ex f q ∧ -1022≤q+(f.log2:Int)∧(-1022≤p+(f.log2:Int)→q=p) ∧ -52≤d∧d≤0:=by
  obtain ⟨h1,h2,h3,h4,h5⟩:=Aq8 h
  have hlo:=h.lo
  have hhi:=h.hi
  have c52:nf 4841369599423283200=4841369599423283200:=by decide +kernel
  unfold Aj7
  rw [Gw5 (by omega),h1,Option.bind_some,Option.bind_some,Fm0 h3,c52]
  by_cases c : -1022≤p+(f.log2:Int)
  · obtain ⟨n1,n2,n3,n4⟩:=Az0 (s:=false) h c
    rw [Ba1] at n1
    rw [decide_eq_false (by omega),cF]
    exact ⟨p,0,rfl,by omega,h,c,fun _=>rfl,by omega,by omega⟩
  · have hlt:Ieee.double.nearest false f p<4503599627370496:=by
      have hv:f*2^(p+1074).toNat<4503599627370496:=by
        have h1':f*2^(p+1074).toNat<2^(f.log2+1)*2^(p+1074).toNat:=Nat.mul_lt_mul_of_pos_right Nat.lt_log2_self (Nat.two_pow_pos _)
        rw [← Nat.pow_add] at h1'
        have h2:2^(f.log2+1+(p+1074).toNat)≤2^52:=Nat.pow_le_pow_right (by omega) (by omega)
        have e52:(2:Nat)^52=4503599627370496:=by decide
        omega
      rcases Nat.lt_or_ge (Ieee.double.nearest false f p) 4503599627370496 with g | g
      · exact g
      · have:Bq8 4503599627370496≤Bq8 (Ieee.double.nearest false f p):=by
          rcases Nat.eq_or_lt_of_le g with g | g
          · rw [← g];exact Nat.le_refl _
          · exact Nat.le_of_lt (Bs9 g)
        have e:Bq8 4503599627370496=4503599627370496:=by decide +kernel
        omega
    have hx:Ex f (p+52):=⟨h.ne,h.lt,by omega,by omega⟩
    rw [decide_eq_true hlt,cT]
    have e:Cq0 (Ieee.double.nearest false f p) 4841369599423283200=Ieee.double.nearest false f (p+52):=by
      rw [Fy5];exact Ef9 h Gh7
    rw [e]
    have hlog:=h.log
    have:0≤(f.log2:Int):=by omega
    exact ⟨p+52, -52,rfl,by omega,hx,by omega,fun g=>absurd g c,by omega,by omega⟩
theorem Ew7 {f:Nat} {q p:Int} (hq:Ex f q) (nq : -1022≤q+(f.log2:Int)) (hp:Ex f p) (np : -1022≤p+(f.log2:Int)) {E:Nat} (hE:(E:Int)=p+(f.log2:Int)+1023) :
    (BitVec.ofInt IntKind.u64.bits ((BitVec.ofInt IntKind.u64.bits ((Ieee.double.nearest false f q:Nat):Int) &&& ~~~BitVec.ofInt IntKind.u64.bits 9218868437227405312).toNat:Int) ||| BitVec.ofInt IntKind.u64.bits ((E*4503599627370496:Nat):Int)).toNat=Ieee.double.nearest false f p:=by
  obtain ⟨a1,a2,a3,_⟩:=Az0 (s:=false) hq nq
  obtain ⟨b1,b2,b3,_⟩:=Az0 (s:=false) hp np
  obtain ⟨f1,f2⟩:=hq.frac
  have:=hp.hi
  rw [Ba1] at a1 b1
  rw [Gv5 _ (by omega),Hi6 (Nat.mod_lt _ (by omega)) (by omega),a1,b1]
  unfold nW at *
  have e1:((q+(f.log2:Int)+1022).toNat*4503599627370496+f*2^(52-f.log2))%4503599627370496=f*2^(52-f.log2)-4503599627370496:=by omega
  rw [e1]
  omega
theorem Ga8 {f:Nat} {q:Int} (hq:Ex f q) (nq : -1022≤q+(f.log2:Int)):((Ieee.double.nearest false f q/4503599627370496:Nat):Int)=q+(f.log2:Int)+1023:=by
  obtain ⟨a1,a2,a3,_⟩:=Az0 (s:=false) hq nq
  obtain ⟨f1,f2⟩:=hq.frac
  rw [a1,Ba1]
  unfold nW;omega
theorem Hh7:min (52:Int).toNat IntKind.u64.bits=52:=by decide
theorem Gh4 {n:Nat} (h:n<18446744073709551616):IntKind.u64.wrap (n:Int)=(n:Int):=Bd2 h
theorem Gu9 {f:Nat} {p:Int} (h:Ex f p):Bc6 (Ieee.double.nearest false f p)=some (Ieee.double.nearest false f (-1-(f.log2:Int)),p+(f.log2:Int)+1):=by
  obtain ⟨h1,h2,h3,h4,h5⟩:=Aq8 h
  have hlo:=h.lo
  have hhi:=h.hi
  have hlog:=h.log
  have hx:Ex f (-1-(f.log2:Int)):=⟨h.ne,h.lt,by omega,by omega⟩
  obtain ⟨q,d,n1,n2,n3,n4,_,n6,n7⟩:=Df2 h
  obtain ⟨m1,m2,m3,m4,m5⟩:=Aq8 n3
  have m6:=n3.hi
  unfold Bc6 Bi9
  rw [Option.bind_some,Ff5,h1,decide_eq_false h4,cF,Gp3 (by omega),Option.bind_some,h1,decide_eq_false (by omega),Bool.not_false,cT,Fe0 (by omega),Option.bind_some,cF,n1,Option.bind_some]
  dsimp only
  rw [Fw7 (by omega),Option.bind_some]
  have e1:IntKind.u64.wrap ((BitVec.ofInt IntKind.u64.bits ((Ieee.double.nearest false f q:Nat):Int) &&& ~~~BitVec.ofInt IntKind.u64.bits 9218868437227405312).toNat:Int)=((BitVec.ofInt IntKind.u64.bits ((Ieee.double.nearest false f q:Nat):Int) &&& ~~~BitVec.ofInt IntKind.u64.bits 9218868437227405312).toNat:Int):=Gh4 (BitVec.isLt _)
  have e2:=Ew7 n3 n4 hx (by omega) (E:=1022) (by omega)
  have e3:((1022*4503599627370496:Nat):Int)=4602678819172646912:=by decide
  rw [e3] at e2
  obtain ⟨x1,x2,x3,x4,x5⟩:=Aq8 hx
  have e4:((Ieee.double.nearest false f q:Nat):Int).fdiv (2^52)=((Ieee.double.nearest false f q/4503599627370496:Nat):Int):=by rw [fdn]
  rw [e1,e2,Gh4 (by omega),Hh7,e4,Gd9 _ (by omega),Gh4 (by omega),Ga8 n3 n4]
  unfold Ab1
  rw [Option.bind_some,Option.bind_some,Int.toNat_natCast,Bz4 (by omega)]
  dsimp only
  rw [wrI (n:=q+(f.log2:Int)+1023) (by omega) (by omega),wrI (n:=q+(f.log2:Int)+1023-1023) (by omega) (by omega),wrI (n:=q+(f.log2:Int)+1023-1023+1) (by omega) (by omega),wrI (by omega) (by omega)]
  congr 2;omega
theorem Gj0:Ieee.double.read 4607182418800017408 = .number false 4503599627370496 ((0:Int)-52):=by decide +kernel
theorem Fo6:Ieee.double.read 4368491638549381120 = .number false 4503599627370496 ((-53:Int)-52):=by decide +kernel
theorem Fy2 {f:Nat} {p k:Int} (h:Ex f p) (hn : -1022≤p+(f.log2:Int)) (hr:Ex f (p+k)) (hk : -4000≤k) (hk2:k≤4000):Aw4 (Ieee.double.nearest false f p) k=some (Ieee.double.nearest false f (p+k)):=by
  obtain ⟨h1,h2,h3,h4,h5⟩:=Aq8 h
  have hlo:=h.lo
  have hhi:=h.hi
  have rlo:=hr.lo
  have rhi:=hr.hi
  have hlog:=h.log
  obtain ⟨q,d,n1,n2,n3,n4,n5,n6,n7⟩:=Df2 h
  have hqp:=n5 hn
  subst hqp
  obtain rfl:d=0:=by omega
  unfold Aw4 Bj6
  have t2:(cond (!decide (Ab2 (Ieee.double.nearest false f q)=9218868437227405312)) ((Af3 (Ieee.double.nearest false f q)).bind fun t4=>some t4) (some true))=some false:=by
    rw [decide_eq_false (by omega),Bool.not_false,cT,Fe0 (by omega)];rfl
  rw [Option.bind_some,Ff5,h1,decide_eq_false h4,cF,Gp3 (by omega),Option.bind_some,t2,Option.bind_some,cF,n1,Option.bind_some]
  dsimp only
  rw [Fw7 (by omega),Option.bind_some]
  have e4:((Ieee.double.nearest false f q:Nat):Int).fdiv (2^52)=((Ieee.double.nearest false f q/4503599627370496:Nat):Int):=by rw [fdn]
  have e1:IntKind.u64.wrap ((BitVec.ofInt IntKind.u64.bits ((Ieee.double.nearest false f q:Nat):Int) &&& ~~~BitVec.ofInt IntKind.u64.bits 9218868437227405312).toNat:Int)=((BitVec.ofInt IntKind.u64.bits ((Ieee.double.nearest false f q:Nat):Int) &&& ~~~BitVec.ofInt IntKind.u64.bits 9218868437227405312).toNat:Int):=Gh4 (BitVec.isLt _)
  have eX:(IntKind.i64.wrap ((IntKind.i64.wrap (k+0))+(IntKind.i64.wrap ((IntKind.i64.wrap (BitVec.ofInt IntKind.i64.bits (IntKind.i64.wrap (((Ieee.double.nearest false f q:Nat):Int).fdiv (2^(min (52:Int).toNat IntKind.u64.bits)))) &&& BitVec.ofInt IntKind.i64.bits 2047).toNat)-1023))))=q+k+(f.log2:Int):=by
    rw [Hh7,e4,wrI (n:=((Ieee.double.nearest false f q/4503599627370496:Nat):Int)) (by omega) (by omega),Gk9 _ (by omega),Ga8 n3 n4,wrI (n:=q+(f.log2:Int)+1023) (by omega) (by omega),wrI (n:=k+0) (by omega) (by omega),wrI (n:=q+(f.log2:Int)+1023-1023) (by omega) (by omega),wrI (by omega) (by omega)]
    omega
  rw [eX,Aa8 (by rw [decide_eq_false_iff_not];omega),Aa8 (by rw [decide_eq_false_iff_not];omega)]
  have n1f:nf 4607182418800017408=4607182418800017408:=by decide +kernel
  have n2f:nf 4368491638549381120=4368491638549381120:=by decide +kernel
  by_cases c:q+k+(f.log2:Int) < -1022
  · have hx:Ex f (q+k+53):=⟨h.ne,h.lt,by omega,by omega⟩
    obtain ⟨x1,x2,x3,x4,x5⟩:=Aq8 hx
    obtain ⟨E,hE⟩:∃ E:Nat,(E:Int)=q+k+53+(f.log2:Int)+1023:=⟨(q+k+53+(f.log2:Int)+1023).toNat,by omega⟩
    have eE:IntKind.u64.wrap (IntKind.u64.wrap (IntKind.i64.wrap (IntKind.i64.wrap (q+k+(f.log2:Int)+53)+1023))*2^52)=((E*4503599627370496:Nat):Int):=by
      rw [wrI (n:=q+k+(f.log2:Int)+53) (by omega) (by omega),wrI (by omega) (by omega),show q+k+(f.log2:Int)+53+1023=(E:Int) by omega,Gh4 (by omega)]
      rw [show (E:Int)*2^52=((E*4503599627370496:Nat):Int) by omega,Gh4 (by omega)]
    rw [Aa6 (by rw [decide_eq_true_eq];exact c),Option.bind_some]
    dsimp only
    rw [e1,Hh7,eE,Ew7 n3 n4 hx (by omega) hE,Gh4 (by omega)]
    unfold Ab1
    rw [Option.bind_some,Int.toNat_natCast,n2f,Bz4 (by omega),Ef9 hx Fo6,show q+k+53 + -53=q+k by omega];rfl
  · obtain ⟨x1,x2,x3,x4,x5⟩:=Aq8 hr
    obtain ⟨E,hE⟩:∃ E:Nat,(E:Int)=q+k+(f.log2:Int)+1023:=⟨(q+k+(f.log2:Int)+1023).toNat,by omega⟩
    have eE:IntKind.u64.wrap (IntKind.u64.wrap (IntKind.i64.wrap (q+k+(f.log2:Int)+1023))*2^52)=((E*4503599627370496:Nat):Int):=by
      rw [wrI (by omega) (by omega),← hE,Gh4 (by omega)]
      rw [show (E:Int)*2^52=((E*4503599627370496:Nat):Int) by omega,Gh4 (by omega)]
    rw [Aa8 (by rw [decide_eq_false_iff_not];exact c),Option.bind_some]
    dsimp only
    rw [e1,Hh7,eE,Ew7 n3 n4 hr (by omega) hE,Gh4 (by omega)]
    unfold Ab1
    rw [Option.bind_some,Int.toNat_natCast,n1f,Bz4 (by omega),Ef9 hr Gj0,show q+k+0=q+k by omega];rfl
theorem Fv8 {x:Nat} (h : ¬ Ab2 x<9218868437227405312):Ai2 x=some (false,0,0,false):=by
  obtain ⟨k,h1,h2⟩:=Ge5 x
  unfold Ai2
  rw [h1,Option.bind_some,h2,decide_eq_true h];rfl
theorem Co3 {x:Nat} (h:Ab2 x=0):Ai2 x=some (Ae3 x,0,0,true):=by
  obtain ⟨k,h1,h2⟩:=Ge5 x
  unfold Ai2 Ac9
  rw [h1,Option.bind_some,h2,decide_eq_false (by omega),cF,Ad0,decide_eq_false (by omega),cF,Option.bind_some,Option.bind_some,Ff5,decide_eq_true h];rfl
theorem Ez7 {x:Nat} (h:Ab2 x<9218868437227405312) (h0:Ab2 x≠0):Ai2 x=some (Ae3 x,(oF (Ab2 x):Int),oP (Ab2 x),true):=by
  obtain ⟨k,h1,h2⟩:=Ge5 x
  obtain ⟨ex,odd,hn,hv⟩:=Em3 h0 h
  unfold Ai2 Ac9
  rw [h1,Option.bind_some,h2,decide_eq_false (by omega),cF,Ad0,decide_eq_false (by omega),cF,Option.bind_some,Option.bind_some,Ff5,decide_eq_false h0,cF,Gw5 (by omega),Option.bind_some]
  generalize oF (Ab2 x)=f at *
  generalize oP (Ab2 x)=p at *
  have hlo:=ex.lo
  have hhi:=ex.hi
  have hlog:=ex.log
  obtain ⟨f1,f2⟩:=ex.frac
  rw [← hn,Gu9 ex,Option.bind_some]
  dsimp only
  have hg:Ex f (52-(f.log2:Int)):=⟨ex.ne,ex.lt,by omega,by omega⟩
  have e0 : -1-(f.log2:Int)+53=52-(f.log2:Int):=by omega
  rw [Fy2 ⟨ex.ne,ex.lt,by omega,by omega⟩ (by omega) (by rw [e0];exact hg) (by omega) (by omega),Option.bind_some,e0]
  have eg:Ieee.double.nearest false f (52-(f.log2:Int))=Ieee.double.nearest false (f*2^(52-f.log2)) 0:=by
    rw [Ax2 false ex.ne];congr 1;omega
  rw [eg,Go7 (by omega) f2,Option.bind_some]
  have htz:tzN (f*2^(52-f.log2))=52-f.log2:=by rw [El5 _ _ ex.ne,Dj4 odd];omega
  unfold Ad9
  rw [Option.bind_some,Gq2 (by omega) (by omega),htz,Gf8,Option.bind_some]
  have hm:min ((52-f.log2:Nat):Int).toNat IntKind.u64.bits=52-f.log2:=by
    rw [Int.toNat_natCast];exact Nat.min_eq_left (show 52-f.log2≤64 by omega)
  rw [hm,fdn,Nat.mul_div_cancel _ (Nat.two_pow_pos _),wrI (n:=p+(f.log2:Int)+1-53) (by omega) (by omega),wrI (by omega) (by omega)]
  congr 4;omega
theorem Fu7 {f:Nat} (h0:f≠0) (h:f<18446744073709551616):LW f = [(f:Int)]:=by
  rw [Bd6 h0,Nat.div_eq_of_lt h,An1,Nat.mod_eq_of_lt h]
theorem Ff0 {x:Nat} (h:Ab2 x<9218868437227405312) (h0:Ab2 x≠0):Cm3 (Am3 x) (-1074)=Cm3 (sgN (Ae3 x) (oF (Ab2 x))) (oP (Ab2 x)):=by
  obtain ⟨ex,odd,hn,hv⟩:=Em3 h0 h
  have hlo:=ex.lo
  rw [← Aw2 (sgN (Ae3 x) (oF (Ab2 x))) (oP (Ab2 x)) (oP (Ab2 x)+1074).toNat]
  have es:Am3 x=sgN (Ae3 x) (oF (Ab2 x))*((2^(oP (Ab2 x)+1074).toNat:Nat):Int):=by
    unfold Am3 sgN
    rw [hv]
    cases Ae3 x<;>simp [Int.neg_mul]
  rw [es];congr 1;omega
theorem Hs2 {x:Nat} (h:Ab2 x<9218868437227405312):Au5 x=some (Cm3 (Am3 x) (-1074)):=by
  unfold Au5
  by_cases h0:Ab2 x=0
  · rw [Co3 h0,Option.bind_some,(Bc4 x).2 h0];rfl
  · obtain ⟨ex,odd,hn,hv⟩:=Em3 h0 h
    rw [Ez7 h h0,Option.bind_some,Ff0 h h0]
    have hlo:=ex.lo
    have hhi:=ex.hi
    have hlt:=ex.lt
    have hne:=ex.ne
    generalize oF (Ab2 x)=f at *
    generalize oP (Ab2 x)=p at *
    have hz:sgN (Ae3 x) f≠0:=by have:=Db0 (Ae3 x) f;omega
    have hs:decide (sgN (Ae3 x) f<0)=Ae3 x:=by
      unfold sgN
      cases Ae3 x<;>simp;omega
    unfold Cm3
    rw [if_neg hz,Db0,Dj4 odd,hs]
    unfold Ez9
    have hb:blN (f/2^0)≤53:=An8.2 (by rw [Nat.pow_zero,Nat.div_one];exact hlt)
    have hlog:0≤(f.log2:Int):=by omega
    rw [if_neg (by simp at hb ⊢;omega),Nat.pow_zero,Nat.div_one,Fu7 hne (by omega)]
    dsimp only
    rw [Bool.not_true,cF,Aa8 (by rw [beq_eq_false_iff_ne];omega)]
    simp
end Go.Eng
/-
  A float's parts as the document tells them, on the plain side. No condition.
-/
set_option maxRecDepth 100000
set_option maxHeartbeats 4000000
set_option exponentiation.threshold 70000
namespace Go.Eng
open Go
theorem Fl7 {y:Nat} {e:Int} {i:Nat} (h0:y≠0) (hy:y<18446744073709551616) (he:y%2=0) (h1 : -4000≤e) (h2:e+(i:Int)≤4000000):Ag7 ((y:Int),e+(i:Int))=some (.inl (((y/2:Nat):Int),e+((i+1:Nat):Int))):=by
  have t1:(y:Int).tmod 2=0:=by rw [Int.tmod_eq_emod_of_nonneg (by omega)];omega
  have t2:IntKind.u64.wrap ((y:Int).tdiv 2)=((y/2:Nat):Int):=by rw [Int.tdiv_eq_ediv_of_nonneg (by omega),w64];omega
  unfold Ag7
  dsimp only
  rw [Aa6 (by rw [bne_iff_ne];omega),t1,Aa6 (by rfl),t2,wrI (by omega) (by omega),show e+(i:Int)+1=e+((i+1:Nat):Int) by omega]
theorem Ge3 {y:Nat} {e:Int} (h0:y%2=1):Ag7 ((y:Int),e)=some (.inr ((y:Int),e)):=by
  have t1:(y:Int).tmod 2=1:=by rw [Int.tmod_eq_emod_of_nonneg (by omega)];omega
  unfold Ag7
  dsimp only
  rw [Aa6 (by rw [bne_iff_ne];omega),t1,Aa8 (by rfl)]
theorem Fs6 {n:Nat} {e:Int} (h0:n≠0) (hn:n<9007199254740992) (h1 : -4000≤e) (h2:e≤4000):Ag0 Ag7 FU ((n:Int),e)=some (((n/2^tzN n:Nat):Int),e+(tzN n:Int)):=by
  obtain ⟨k1,k2⟩:=Dj5 h0
  obtain ⟨_,_,k3⟩:=Bv5 h0
  have htl:=Dt5 h0
  have hbl:blN n≤53:=An8.2 hn
  have hf0:n/2^tzN n≠0:=by omega
  have hpos:∀ i,i≤tzN n→n/2^i≠0:=fun i hi g=>by
    have:n/2^tzN n≤n/2^i:=Nat.div_le_div_left (Nat.pow_le_pow_right (by omega) hi) (Nat.two_pow_pos _)
    rw [g] at this
    exact hf0 (Nat.le_zero.1 this)
  have hbig:∀ i,i<tzN n→e+(i:Int)≤4000000:=fun i hi=>by
    clear k1 k2 k3 hf0 hpos
    omega
  have loop:=Ab9 (b:=Ag7) (fun i=>(((n/2^i:Nat):Int),e+(i:Int))) (o:=(((n/2^tzN n:Nat):Int),e+(tzN n:Int))) (tzN n) (by rw [Ae6];omega) (fun i hi=>by
    have e':n/2^(i+1)=n/2^i/2:=by rw [Nat.pow_succ,← Nat.div_div_eq_div_mul]
    rw [e']
    exact Fl7 (hpos i (Nat.le_of_lt hi)) (Nat.lt_of_le_of_lt (Nat.div_le_self _ _) (Nat.lt_of_lt_of_le hn (by decide))) (k3 i hi) h1 (hbig i hi)) (Ge3 k2)
  rw [Nat.pow_zero,Nat.div_one,show e+((0:Nat):Int)=e by omega] at loop
  exact loop
theorem Gs3 {x:Nat} (hx:x<18446744073709551616):Bc8 x=some (decide (Ab2 x<9218868437227405312)):=by
  have e:x%9223372036854775808=Cw1 x*4503599627370496+Bk2 x:=by unfold Cw1 Bk2;omega
  have hf:Bk2 x<4503599627370496:=Nat.mod_lt _ (by omega)
  have he:Cw1 x<2048:=Nat.mod_lt _ (by omega)
  unfold Bc8 Bv7 Ab2
  rw [Option.bind_some,e]
  congr 1
  by_cases c:Cw1 x=2047
  · rw [if_pos c,decide_eq_false (p:=_<9218868437227405312) (by omega)]
    by_cases d:Bk2 x=0
    · rw [if_pos d];rfl
    · rw [if_neg d];rfl
  · rw [if_neg c,decide_eq_true (p:=_<9218868437227405312) (by omega)]
    by_cases d:Cw1 x=0
    · rw [if_pos d]
      by_cases d2:Bk2 x=0
      · rw [if_pos d2];rfl
      · rw [if_neg d2];rfl
    · rw [if_neg d];rfl
theorem Gk2 {x:Nat} (hx:x<18446744073709551616):Az3 x=Ai2 x:=by
  by_cases h:Ab2 x<9218868437227405312
  · unfold Az3 Bi1
    rw [Gs3 hx,Option.bind_some,decide_eq_true h,Bool.not_true,cF,Fw7 (by omega)]
    simp only [Option.bind_some]
    have s1:(((x:Int).fdiv (2^(min (63:Int).toNat IntKind.u64.bits)))==1)=Ae3 x:=by
      rw [Hs4,fdn]
      unfold Ae3
      rw [Bool.eq_iff_iff,beq_iff_eq,beq_iff_eq,show (2:Nat)^63=9223372036854775808 by decide];omega
    have s2:IntKind.i64.wrap ((IntKind.u64.wrap ((x:Int).tdiv 4503599627370496)).tmod 2048)=((Ab2 x/4503599627370496:Nat):Int):=by
      rw [Int.tdiv_eq_ediv_of_nonneg (by omega),show (x:Int)/4503599627370496=((x/4503599627370496:Nat):Int) by omega,Bd2 (by omega),Int.tmod_eq_emod_of_nonneg (by omega),wrI (by omega) (by omega)]
      unfold Ab2 at *;omega
    have s3:(x:Int).tmod 4503599627370496=((Ab2 x%4503599627370496:Nat):Int):=by
      rw [Int.tmod_eq_emod_of_nonneg (by omega)]
      unfold Ab2;omega
    rw [s1,s2,s3]
    have s4:(cond (decide (((Ab2 x/4503599627370496:Nat):Int)>0)) (some (IntKind.u64.wrap (((Ab2 x%4503599627370496:Nat):Int)+4503599627370496),IntKind.i64.wrap (((Ab2 x/4503599627370496:Nat):Int)-1075))) (some (((Ab2 x%4503599627370496:Nat):Int),(-1074:Int))))=some ((sM (Ab2 x):Int), -1074+(sP (Ab2 x):Int)):=by
      by_cases c:Ab2 x<4503599627370496
      · have e1:sM (Ab2 x)=Ab2 x:=by unfold sM;rw [if_pos c]
        have e2:sP (Ab2 x)=0:=by unfold sP;rw [if_pos c]
        rw [Aa8 (by rw [decide_eq_false_iff_not];omega),e1,e2,Nat.mod_eq_of_lt c];rfl
      · have e1:sM (Ab2 x)=4503599627370496+Ab2 x%4503599627370496:=by unfold sM;rw [if_neg c]
        have e2:sP (Ab2 x)=Ab2 x/4503599627370496-1:=by unfold sP;rw [if_neg c]
        rw [Aa6 (by rw [decide_eq_true_eq];omega),e1,e2,show ((Ab2 x%4503599627370496:Nat):Int)+4503599627370496=((4503599627370496+Ab2 x%4503599627370496:Nat):Int) by omega,Bd2 (by omega),wrI (by omega) (by omega),show ((Ab2 x/4503599627370496:Nat):Int)-1075 = -1074+((Ab2 x/4503599627370496-1:Nat):Int) by omega]
    rw [s4,Option.bind_some]
    dsimp only
    by_cases h0:Ab2 x=0
    · rw [Co3 h0,h0]
      have e:Ag0 Ag7 FU (((sM 0:Nat):Int),0)=some (0,0):=by decide +kernel
      have e3:(((sM 0:Nat):Int)==0)=true:=rfl
      rw [e3,cT,Option.bind_some,e];rfl
    · have hm:=Hi9 h0
      have hP:sP (Ab2 x)≤2046:=by unfold sP;split<;>omega
      rw [Ez7 h h0,Aa8 (by rw [beq_eq_false_iff_ne];omega),Option.bind_some,Fs6 hm (Hl2 _) (by omega) (by omega)];rfl
  · unfold Az3
    rw [Gs3 hx,Option.bind_some,decide_eq_false h,Fv8 h];rfl
end Go.Eng
/-
  Rounding a dyad, on the plain side: what dyad.Round answers. No condition.
-/
set_option maxRecDepth 100000
set_option maxHeartbeats 400000
set_option exponentiation.threshold 70000
namespace Go.Eng
open Go
def rL (n:Nat) (e:Int):Int:=max (e+(blN n:Int)-53) (-1074)
def Eu9 (m:Int) (neg:Bool) (half:Int) (odd:Bool):Bool:=if m=1 then neg else if m=2 then !neg else if m=3 then false else decide (half>0)||(decide (half=0)&&odd)
def Ci8 (n c:Nat):Int:=if 2*(n%2^c)<2^c then -1 else if 2*(n%2^c)=2^c then 0 else 1
def Fm9 (s:Bool) (n c:Nat) (m:Int):Nat:=n/2^c+(if n%2^c≠0∧Eu9 m s (Ci8 n c) (n/2^c%2==1)=true then 1 else 0)
def rS (s:Bool) (n:Nat) (e:Int) (m:Int):Nat:=if rL n e≤e then n*2^(e-rL n e).toNat else Fm9 s n (rL n e-e).toNat m
def Gj2 (m:Int) (s:Bool):Nat:=Ieee.double.word s (if m=3∨(m=1∧s=false)∨(m=2∧s=true) then 9218868437227405311 else 9218868437227405312)
def Hf8 (s:Bool) (size:Nat) (last m:Int):Nat:=if 1024<(blN size:Int)+last then Gj2 m s else Ieee.double.nearest s size last
def rF (s:Bool) (n:Nat) (e m:Int):Nat:=if n=0 then 0 else Hf8 s (rS s n e m) (rL n e) m
theorem Gt7 (s:Bool) {n c k:Nat} (m:Int) (h:blN n≤c+k):Fm9 s n c m≤2^k:=by
  have h1:n/2^c<2^k:=by
    rw [Nat.div_lt_iff_lt_mul (Nat.two_pow_pos c),← Nat.pow_add,Nat.add_comm]
    exact An8.1 h
  unfold Fm9
  split<;>omega
theorem Gl8 (s:Bool) {n:Nat} (e m:Int) (h0:n≠0):rS s n e m≤9007199254740992:=by
  have e53:(2:Nat)^53=9007199254740992:=by decide
  unfold rS
  by_cases c:rL n e≤e
  · rw [if_pos c]
    have hb:blN (n*2^(e-rL n e).toNat)≤53:=by
      rw [Bf5 _ _ h0]
      unfold rL at *
      omega
    have:=An8.1 hb
    omega
  · rw [if_neg c]
    have:=Gt7 s (n:=n) (c:=(rL n e-e).toNat) (k:=53) m (by unfold rL at *;omega)
    omega
theorem Fu0 {s:Bool} {n:Nat} {e m:Int} (h0:n≠0) (h:rS s n e m=0):rL n e = -1074:=by
  unfold rS at h
  by_cases c:rL n e≤e
  · rw [if_pos c] at h
    have:0<n*2^(e-rL n e).toNat:=Nat.mul_pos (by omega) (Nat.two_pow_pos _)
    omega
  · rw [if_neg c] at h
    have hz:n/2^(rL n e-e).toNat=0:=by
      have:n/2^(rL n e-e).toNat≤Fm9 s n (rL n e-e).toNat m:=Nat.le_add_right _ _
      rw [h] at this
      exact Nat.le_zero.1 this
    have hlt:n<2^(rL n e-e).toNat:=(Nat.div_eq_zero_iff_lt (Nat.two_pow_pos _)).1 hz
    have:=An8.2 hlt
    unfold rL at *
    omega
theorem Ge9 {f:Nat} (h:f<18446744073709551616):Ae5 (f:Int)=some (blN f:Int):=by
  unfold Ae5
  rw [Aa6 (by rw [decide_eq_true_eq];omega),Int.toNat_natCast]
theorem Fb0 {f:Nat} (h:f≠0):(blN f:Int)=(f.log2:Int)+1:=by unfold blN;rw [if_neg h];omega
theorem Hp0 {f:Nat} (h:Ex f 0):nf (FloatKind.f64.nearest (f:Int))=Ieee.double.nearest false f 0:=by
  have e:FloatKind.f64.nearest (f:Int)=Ieee.double.nearest (decide ((f:Int)<0)) ((f:Int).natAbs) 0:=rfl
  rw [e,decide_eq_false (by omega),Int.natAbs_natCast,Gy0 h]
theorem Hi0 {r:Nat} (h:r<9218868437227405312):Ac0 r (nf 13830554455654793216)=some (9223372036854775808+r):=by
  have e1:nf 13830554455654793216=13830554455654793216:=by decide +kernel
  have e2:isNaN 13830554455654793216=false:=by decide +kernel
  have e3:Ae3 13830554455654793216=true:=by decide +kernel
  have hm:Ab2 r=r:=Bb1 (by unfold Ao9;omega)
  unfold Ac0
  rw [e1,e2,cF,e3,if_pos rfl,hm,Bz4]
  unfold Ab2;omega
theorem Gs9 (s:Bool) {f:Nat} {p:Int} (h:Ex f p) (odd:f%2=1):As1 s (f:Int) p=some (Ieee.double.nearest s f p,true):=by
  have hlo:=h.lo
  have hhi:=h.hi
  have hlt:=h.lt
  have hlog:=h.log
  have hb:=Fb0 h.ne
  have h0:Ex f 0:=⟨h.ne,h.lt,by omega,by omega⟩
  obtain ⟨a1,a2,a3,a4,a5⟩:=Aq8 h
  unfold As1
  rw [Ge9 (by omega),Option.bind_some]
  have z:((f:Int)==0)=false:=by rw [beq_eq_false_iff_ne];omega
  have z2:((f:Int) != 0)=true:=by rw [bne_iff_ne];omega
  have z3:((f:Int).tmod 2==0)=false:=by rw [Int.tmod_eq_emod_of_nonneg (by omega),beq_eq_false_iff_ne];omega
  rw [z,cF,z2,cT,z3,Option.bind_some,cF,decide_eq_false (p:=(blN f:Int)>53) (by omega),Bool.not_false,cT,decide_eq_false (p:=p>1024) (by omega),Bool.not_false,cT,decide_eq_false (p:=p < -1074) (by omega),Bool.not_false,cT,cT,wrI (by omega) (by omega),decide_eq_false (p:=p+(blN f:Int)>1024) (by omega),Option.bind_some,cF,Hp0 h0,Fy2 h0 (by omega) (by rw [Int.zero_add];exact h) (by omega) (by omega),Option.bind_some,Int.zero_add]
  cases s with
  | false=>rw [cF,Option.bind_some]
  | true=>
    rw [cT,Hi0 a3,Option.bind_some,Option.bind_some,Eq1 (s:=true) h];rfl
theorem Ft8 (s:Bool):As1 s 0 0=some (Ieee.double.word s 0,true):=by cases s<;>decide +kernel
theorem Ej0 (s:Bool) (p:Int):Ieee.double.nearest s 0 p=Ieee.double.word s 0:=by unfold Ieee.Format.nearest;exact if_pos rfl
theorem Gl4 (s:Bool):As1 s 9007199254740991 971=some (Ieee.double.word s 9218868437227405311,true):=by
  have h:Ex 9007199254740991 971:=⟨by decide,by decide,by decide,by decide⟩
  have:=Gs9 s h (by decide)
  have e:Ieee.double.nearest s 9007199254740991 971=Ieee.double.word s 9218868437227405311:=by cases s<;>decide +kernel
  rw [e] at this
  exact this
theorem Gj4 (s:Bool):Av7 (Ieee.double.word s 9218868437227405311) (!s)=some (Ieee.double.word s 9218868437227405312):=by cases s<;>decide +kernel
theorem Gu3 (s:Bool) {size:Nat} {last m:Int} (hs:size≤9007199254740992) (h1 : -1074≤last) (h2:last≤1000000) (h0:size=0→last≤1024):Bb6 s (size:Int) last m=some (Hf8 s size last m):=by
  unfold Bb6
  by_cases c0:size=0
  · subst c0
    have hl:=h0 rfl
    rw [Aa8 (by simp),Option.bind_some]
    dsimp only
    have e:Ae5 0=some 0:=by decide
    have eb:blN 0=0:=rfl
    rw [e,Option.bind_some,Aa8 (by decide),Ft8]
    unfold Hf8
    rw [eb,if_neg (by omega),Ej0];rfl
  · obtain ⟨k1,k2⟩:=Dj5 c0
    have htl:=Dt5 c0
    have hbl:blN size≤54:=An8.2 (by
        have:(2:Nat)^54=18014398509481984:=by decide
        omega)
    have hf0:size/2^tzN size≠0:=by omega
    have hb2:blN size=blN (size/2^tzN size)+tzN size:=by
      conv=>lhs;rw [k1]
      exact Bf5 _ _ hf0
    have hflt:size/2^tzN size<9007199254740992:=by
      have:=Nat.div_le_self size (2^tzN size)
      rcases Nat.lt_or_ge (size/2^tzN size) 9007199254740992 with g | g
      · exact g
      · omega
    have ev:Ieee.double.nearest s size last=Ieee.double.nearest s (size/2^tzN size) (last+(tzN size:Int)):=by
      conv=>lhs;rw [k1]
      exact Ax2 s hf0 last _
    unfold Ad9 Hf8
    rw [Aa6 (by rw [decide_eq_true_eq];omega),Option.bind_some,Gq2 c0 (by omega),Gf8,Option.bind_some]
    have hm:min ((tzN size:Nat):Int).toNat IntKind.u64.bits=tzN size:=by
      rw [Int.toNat_natCast];exact Nat.min_eq_left (show tzN size≤64 by omega)
    rw [hm,fdn,Option.bind_some,ev]
    dsimp only
    generalize size/2^tzN size=f at *
    generalize tzN size=t at *
    have hb:=Fb0 hf0
    rw [wrI (n:=last+(t:Int)) (by omega) (by omega),Ge9 (by omega),Option.bind_some,wrI (n:=(blN f:Int)+(last+(t:Int))) (by omega) (by omega)]
    by_cases c:1024<(blN size:Int)+last
    · rw [if_pos c,Aa6 (by rw [decide_eq_true_eq];omega),Gl4,Option.bind_some]
      dsimp only
      rw [Gj4]
      unfold Gj2
      by_cases m3:m=3
      · subst m3;rw [if_pos (.inl rfl)];rfl
      · have n3:(m==3)=false:=by rw [beq_eq_false_iff_ne];exact m3
        rw [n3]
        by_cases m1:m=1
        · subst m1
          cases s<;>rfl
        · have n1:(m==1)=false:=by rw [beq_eq_false_iff_ne];exact m1
          rw [n1]
          by_cases m2:m=2
          · subst m2
            cases s<;>rfl
          · have n2:(m==2)=false:=by rw [beq_eq_false_iff_ne];exact m2
            rw [n2,if_neg (by omega)];rfl
    · have hx:Ex f (last+(t:Int)):=⟨hf0,hflt,by omega,by omega⟩
      rw [if_neg c,Aa8 (by rw [decide_eq_false_iff_not];omega),Gs9 s hx k2];rfl
theorem Gr4 (m:Int) (s:Bool) (half:Int) (odd:Bool):Az5 m s half odd=some (Eu9 m s half odd):=by
  unfold Az5 Eu9
  by_cases m1:m=1
  · subst m1;rfl
  · have n1:(m==1)=false:=by rw [beq_eq_false_iff_ne];exact m1
    rw [n1,cF,if_neg m1]
    by_cases m2:m=2
    · subst m2;rfl
    · have n2:(m==2)=false:=by rw [beq_eq_false_iff_ne];exact m2
      rw [n2,cF,if_neg m2]
      by_cases m3:m=3
      · subst m3;rfl
      · have n3:(m==3)=false:=by rw [beq_eq_false_iff_ne];exact m3
        rw [n3,cF,if_neg m3]
        by_cases h:half>0
        · rw [decide_eq_true h];rfl
        · rw [decide_eq_false h,Bool.not_false,cT]
          by_cases h2:half=0
          · subst h2;rfl
          · have:(half==0)=false:=by rw [beq_eq_false_iff_ne];exact h2
            rw [this,decide_eq_false h2];rfl
theorem maxI' (a:Int):(if (-1074:Int)>a then -1074 else a)=max a (-1074):=by split<;>omega
theorem Fr9 {s:Bool} {n:Nat} {e m:Int} (h0:n≠0) (hb:blN n≤65536) (he1 : -131072≤e) (he2:e≤131072) :
    (cond (decide ((IntKind.i64.wrap (rL n e-e))≤0))
              ((Ar5 (n:Int) (IntKind.u64.wrap (IntKind.i64.wrap (0-(IntKind.i64.wrap (rL n e-e)))))).bind fun t7=>
                (An2 t7).bind fun t8=>
                some t8)
              ((Bi6 (n:Int) (IntKind.u64.wrap (IntKind.i64.wrap (rL n e-e)))).bind fun t9=>
                (An2 t9).bind fun t10=>
                (Ar5 t9 (IntKind.u64.wrap (IntKind.i64.wrap (rL n e-e)))).bind fun t11=>
                (Du0 (n:Int) t11).bind fun t12=>
                (Az4 1).bind fun t13=>
                (Ar5 t13 (IntKind.u64.wrap (IntKind.i64.wrap ((IntKind.i64.wrap (rL n e-e))-1)))).bind fun t14=>
                (Dt3 t12 t14).bind fun t15=>
                (Ao5 t12).bind fun t16=>
                cond (decide (t16>0))
                  ((Az5 m s t15 ((IntKind.u64.wrap (BitVec.ofInt IntKind.u64.bits t10 &&& BitVec.ofInt IntKind.u64.bits 1).toNat)==1)).bind fun t17=>
                    (cond t17
                        (some (IntKind.u64.wrap (t10+1)))
                        (some t10)).bind fun t18=>
                    some t18)
                  ((some t10).bind fun t19=>
                    some t19)))=some ((rS s n e m:Nat):Int):=by
  have hle:=Gl8 s e m h0
  have hL : -1074≤rL n e∧rL n e≤200000:=by unfold rL;omega
  obtain ⟨K,hK,hn2⟩:∃ K:Nat,K≤65536∧n<2^K:=⟨blN n,hb,An8.1 (Nat.le_refl _)⟩
  have hnk:((n:Nat):Int).natAbs<2^K:=hn2
  rw [wrI (n:=rL n e-e) (by omega) (by omega)]
  unfold rS at *
  by_cases c:rL n e≤e
  · rw [if_pos c] at hle ⊢
    obtain ⟨d,hd⟩:∃ d:Nat,e-rL n e=d:=⟨(e-rL n e).toNat,by omega⟩
    have hd2:(e-rL n e).toNat=d:=by omega
    rw [hd2] at hle ⊢
    rw [Aa6 (by rw [decide_eq_true_eq];omega),wrI (n:=0-(rL n e-e)) (by omega) (by omega),show 0-(rL n e-e)=(d:Int) by omega,Bd2 (by omega)]
    have e1:Ar5 (n:Int) (d:Int)=some ((n*2^d:Nat):Int):=by
      unfold Ar5
      have:(n:Int)*((2^d:Nat):Int)=((n*2^d:Nat):Int):=by rw [Int.natCast_mul]
      rw [if_pos ⟨by omega,by omega⟩,Aj4 hnk (by omega),Option.bind_some,Int.toNat_natCast,this,Aj4 (k:=54) (by rw [Int.natAbs_natCast];exact Nat.lt_of_le_of_lt hle (by decide)) (by omega)]
    rw [e1,Option.bind_some]
    unfold An2
    rw [Int.natAbs_natCast,Nat.mod_eq_of_lt (by omega)];rfl
  · rw [if_neg c] at hle ⊢
    obtain ⟨d,hd⟩:∃ d:Nat,rL n e-e=(d+1:Nat):=⟨(rL n e-e).toNat-1,by omega⟩
    have hd2:(rL n e-e).toNat=d+1:=by omega
    rw [hd2] at hle ⊢
    have hp2:2^(d+1)=2*2^d:=by rw [Nat.pow_succ,Nat.mul_comm]
    have hr:n%2^(d+1)<2^(d+1):=Nat.mod_lt _ (Nat.two_pow_pos _)
    have hdm:=Nat.div_add_mod n (2^(d+1))
    have hq:n/2^(d+1)≤Fm9 s n (d+1) m:=Nat.le_add_right _ _
    have hmul:n/2^(d+1)*2^(d+1)≤n:=Nat.div_mul_le_self _ _
    have hqn:n/2^(d+1)≤n:=Nat.div_le_self _ _
    rw [hd,Aa8 (by rw [decide_eq_false_iff_not];omega),wrI (n:=((d+1:Nat):Int)-1) (by omega) (by omega),show ((d+1:Nat):Int)-1=(d:Int) by omega,Bd2 (n:=d+1) (by omega),Bd2 (n:=d) (by omega)]
    have e1:Bi6 (n:Int) ((d+1:Nat):Int)=some ((n/2^(d+1):Nat):Int):=by
      unfold Bi6
      rw [if_pos ⟨by omega,by omega,by omega⟩,Aj4 hnk (by omega)]
      simp only [Option.bind_some,Int.natAbs_natCast,Int.toNat_natCast]
    rw [e1,Option.bind_some]
    unfold Fm9 Ci8 at *
    rw [Nat.mul_comm] at hdm
    generalize n/2^(d+1)=q at *
    generalize n%2^(d+1)=r at *
    have e2:An2 (q:Int)=some (q:Int):=by
      unfold An2
      rw [Int.natAbs_natCast,Nat.mod_eq_of_lt (by omega)]
    have e3:Ar5 (q:Int) ((d+1:Nat):Int)=some ((q*2^(d+1):Nat):Int):=by
      unfold Ar5
      have:(q:Int)*((2^(d+1):Nat):Int)=((q*2^(d+1):Nat):Int):=by rw [Int.natCast_mul]
      rw [if_pos ⟨by omega,by omega⟩,Aj4 (k:=K) (by rw [Int.natAbs_natCast];exact Nat.lt_of_le_of_lt hqn hn2) (by omega),Option.bind_some,Int.toNat_natCast,this,Aj4 (k:=K) (by rw [Int.natAbs_natCast];exact Nat.lt_of_le_of_lt hmul hn2) (by omega)]
    have e4:Du0 (n:Int) ((q*2^(d+1):Nat):Int)=some (r:Int):=by
      unfold Du0
      rw [Aj4 hnk (by omega),Option.bind_some,Aj4 (k:=K) (by rw [Int.natAbs_natCast];exact Nat.lt_of_le_of_lt hmul hn2) (by omega),Option.bind_some]
      refine congrArg some ?_
      generalize q*2^(d+1)=Q at *
      omega
    have e5:Az4 1=some 1:=by decide
    have e6:Ar5 1 (d:Int)=some ((2^d:Nat):Int):=by
      unfold Ar5
      rw [if_pos ⟨by omega,by omega⟩,show Cw8 1=some 1 by decide,Option.bind_some,Int.toNat_natCast,Int.one_mul,Aj4 (k:=d+1) (by rw [Int.natAbs_natCast];exact Nat.pow_lt_pow_right (by omega) (by omega)) (by omega)]
    have e7:Dt3 (r:Int) ((2^d:Nat):Int)=some (if 2*r<2^(d+1) then -1 else if 2*r=2^(d+1) then 0 else 1):=by
      unfold Dt3
      rw [Aj4 (k:=d+1) (by rw [Int.natAbs_natCast];exact hr) (by omega),Option.bind_some,Aj4 (k:=d+1) (by rw [Int.natAbs_natCast];exact Nat.pow_lt_pow_right (by omega) (by omega)) (by omega),Option.bind_some]
      rw [hp2]
      generalize 2^d=P at *
      refine congrArg some ?_
      by_cases g1:r<P
      · rw [if_pos (by omega),if_pos (by omega)]
      · by_cases g2:r=P
        · rw [if_neg (by omega),if_pos (by omega),if_neg (by omega),if_pos (by omega)]
        · rw [if_neg (by omega),if_neg (by omega),if_neg (by omega),if_neg (by omega)]
    have e8:∃ y,Ao5 (r:Int)=some y∧decide (y>0)=decide (r≠0):=by
      refine ⟨_,rfl,?_⟩
      by_cases g:r=0
      · subst g;rfl
      · rw [if_neg (by omega),if_neg (by omega),decide_eq_true g];rfl
    obtain ⟨y,e8,e9⟩:=e8
    rw [e2,Option.bind_some,e3,Option.bind_some,e4,Option.bind_some,e5,Option.bind_some,e6,Option.bind_some,e7,Option.bind_some,e8,Option.bind_some,e9,Hg0 (by omega) (by omega),Gr4,Option.bind_some]
    have e10:((q:Int)%2==1)=(q%2==1):=by
      rw [Bool.eq_iff_iff,beq_iff_eq,beq_iff_eq];omega
    rw [e10]
    generalize (if 2*r<2^(d+1) then (-1:Int) else if 2*r=2^(d+1) then 0 else 1)=hf at *
    by_cases g:r=0
    · rw [decide_eq_false (fun k=>k g),cF,if_neg (fun k=>k.1 g)];rfl
    · rw [decide_eq_true g,cT]
      cases ha:Eu9 m s hf (q%2==1) with
      | false=>rw [cF,if_neg (fun k=>by simp at k)];rfl
      | true=>
        rw [ha,if_pos ⟨g,rfl⟩] at hle
        rw [cT,if_pos ⟨g,rfl⟩,Option.bind_some]
        refine congrArg some ?_
        exact Bd2 (n:=q+1) (by omega)
theorem Gz9 {s:Bool} {l:List Int} {e m:Int} (h:Gd s l e):As0 s l e m=some (rF s (lv l) e m,0):=by
  have hd:=h.ld
  unfold As0 rF
  rw [Ed6 h,Option.bind_some,Bool.not_true,cF,Option.bind_some]
  by_cases c:l = []
  · subst c;rw [Aa6 (by rfl),Ah1];rfl
  · have hlen:l.length≠0:=fun g=>c (List.eq_nil_of_length_eq_zero g)
    have hz:zD s l≠0:=fun g=>c (h.z_zero.1 g)
    have hlv:lv l≠0:=by have:=Bu9 s l;omega
    have hbn:blN (lv l)≤16384:=An8.2 hd.2.2.2.2
    have e1:Bp5 (zD s l)=some ((lv l:Nat):Int):=by
      unfold Bp5
      rw [Aj4 (k:=16384) (by rw [Bu9];exact hd.2.2.2.2) (by omega),Option.bind_some,Bu9]
    rw [Aa8 (by rw [beq_eq_false_iff_ne];omega),Cg6 h,Option.bind_some,e1,Option.bind_some,Hg5 h hz,Option.bind_some,wrI (n:=e+(blN (lv l):Int)-53) (by omega) (by omega),maxI',if_neg hlv]
    have eL:max (e+(blN (lv l):Int)-53) (-1074)=rL (lv l) e:=rfl
    have hL : -1074≤rL (lv l) e∧rL (lv l) e≤200000:=by unfold rL;omega
    have z:=fun g=>Fu0 (s:=s) (e:=e) (m:=m) hlv g
    rw [eL,Fr9 (s:=s) (m:=m) hlv (by omega) (by omega) (by omega),Option.bind_some,Gu3 s (Gl8 s e m hlv) hL.1 (by omega) (fun g=>by rw [z g];omega)];rfl
end Go.Eng
/-
  What is a float exactly, on the plain side: it is rounded to itself; a float's dyad by its own odd number. No condition.
-/
set_option maxRecDepth 100000
set_option maxHeartbeats 400000
set_option exponentiation.threshold 70000
namespace Go.Eng
open Go
theorem Gq5 {x:Nat} (h:Ab2 x<9218868437227405312) (h0:Ab2 x≠0):Gd (Ae3 x) [(oF (Ab2 x):Int)] (oP (Ab2 x)):=by
  obtain ⟨ex,odd,hn,hv⟩:=Em3 h0 h
  have hlo:=ex.lo
  have hhi:=ex.hi
  have hlt:=ex.lt
  have hne:=ex.ne
  refine .inr ⟨oF (Ab2 x),odd,(Fu7 hne (by omega)).symm,by omega,by omega,?_⟩
  have:blN (oF (Ab2 x))≤53:=An8.2 hlt
  omega
theorem Gr6 {x:Nat} (h:Ab2 x<9218868437227405312) (h0:Ab2 x≠0):Au5 x=some (Ae3 x,[(oF (Ab2 x):Int)],oP (Ab2 x),0):=by
  have:=Gw9 (Gq5 h h0)
  rw [Hs2 h,Ff0 h h0,← this]
  have e:zD (Ae3 x) [(oF (Ab2 x):Int)]=sgN (Ae3 x) (oF (Ab2 x)):=by unfold zD;simp [lv]
  rw [e]
end Go.Eng
/-
  The dyad of a finite float, by its number. No condition.
-/
set_option maxRecDepth 100000
set_option maxHeartbeats 400000
set_option exponentiation.threshold 140000
namespace Go.Eng
open Go
theorem Gs8 {x:Nat} (h:Ab2 x<9218868437227405312):∃ s l f,Au5 x=some (s,l,f,0)∧Gd s l f∧nD s l f=Am3 x*((2^64462:Nat):Int):=by
  have ho:=Hs2 h
  have sh:=Aw2 (Am3 x) (-1074) 64462
  rw [show (-1074:Int)-((64462:Nat):Int) = -65536 by omega] at sh
  by_cases h0:Ab2 x=0
  · refine ⟨false,[],0,?_,.inl ⟨rfl,rfl,rfl⟩,?_⟩
    · rw [ho,(Bc4 x).2 h0];rfl
    · rw [(Bc4 x).2 h0,Int.zero_mul]
      unfold nD zD sgN lv;simp
  · refine ⟨_,_,_,Gr6 h h0,Gq5 h h0,?_⟩
    have e1:=Gr6 h h0
    rw [ho,← sh] at e1
    injection e1 with e1
    have:=(Fe9 (k:=0) (by rw [show (-65536:Int)-((0:Nat):Int) = -65536 by omega];exact e1)).2
    rw [Nat.pow_zero] at this
    simpa using this
end Go.Eng
