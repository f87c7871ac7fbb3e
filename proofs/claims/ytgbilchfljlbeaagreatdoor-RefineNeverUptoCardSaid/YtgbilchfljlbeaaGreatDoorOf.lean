
/-
  Dyads on the plain side: tops. No condition.
-/
import Derived.Test.YtgbilchfljlbeaaGreatDoorDy2
import Derived.Test.YtgbilchfljlbeaaGreatDoorFe
import Derived.Test.YtgbilchfljlbeaaGreatDoorOpp
set_option linter.all false
set_option maxRecDepth 100000
set_option maxHeartbeats 400000
set_option exponentiation.threshold 70000
namespace Go.Eng
open Go
theorem blN_LW {m:Nat} (h:m≠0):blN m=64*((LW m).length-1)+blN ((LW m).getD ((LW m).length-1) 0).toNat:=by
  induction m using LW_ind with
  | h0=>exact absurd rfl h
  | h n h0 ih =>
    by_cases c:n/18446744073709551616=0
    · have hn:n<18446744073709551616:=by omega
      rw [LW_pos h0,c,LW_zero]
      simp
      congr 1
      omega
    · have ih:=ih c
      have hl:LW (n/18446744073709551616) ≠ []:=fun c'=>c (LW_nil.1 c')
      have hlen:=List.length_pos_iff.2 hl
      rw [LW_pos h0,List.length_cons]
      have e1:((n%18446744073709551616:Nat):Int)::LW (n/18446744073709551616)=((n%18446744073709551616:Nat):Int)::LW (n/18446744073709551616):=rfl
      have e2:(((n%18446744073709551616:Nat):Int)::LW (n/18446744073709551616)).getD ((LW (n/18446744073709551616)).length+1-1) 0=(LW (n/18446744073709551616)).getD ((LW (n/18446744073709551616)).length-1) 0:=by
        obtain ⟨k,hk⟩:∃ k,(LW (n/18446744073709551616)).length=k+1:=⟨(LW (n/18446744073709551616)).length-1,by omega⟩
        rw [hk];simp
      rw [e2]
      have e3:blN n=blN (n/18446744073709551616)+64:=by
        have lo:(n/18446744073709551616).log2+64=n.log2:=by
          have h1:=Nat.log2_self_le c
          have h2:=@Nat.lt_log2_self (n/18446744073709551616)
          symm
          rw [Nat.log2_eq_iff h0]
          constructor
          · rw [Nat.pow_add,show (2:Nat)^64=18446744073709551616 by decide]
            exact Nat.le_trans (Nat.mul_le_mul_right _ h1) (Nat.div_mul_le_self _ _)
          · rw [show (n/18446744073709551616).log2+64+1=((n/18446744073709551616).log2+1)+64 by omega,Nat.pow_add,show (2:Nat)^64=18446744073709551616 by decide]
            exact (Nat.div_lt_iff_lt_mul (by omega)).1 h2
        unfold blN
        rw [if_neg h0,if_neg c];omega
      rw [e3,ih];omega
theorem top_gd {s:Bool} {l:List Int} {e:Int} (h:Gd s l e) (h0:zD s l≠0):T_dyad_top s l e=some (e+(blN (lv l):Int)):=by
  have hb:=h.ld
  rcases h with ⟨h1,_,_⟩ | ⟨m,h1,rfl,h3,h4,h5⟩
  · subst h1;exact absurd (by unfold zD sgN lv;cases s<;>rfl) h0
  · have hm:m≠0:=by omega
    have hl:LW m ≠ []:=fun c=>hm (LW_nil.1 c)
    have hlen:=List.length_pos_iff.2 hl
    have hbl:=blN_LW hm
    have hx:=hb.1 ((LW m).getD ((LW m).length-1) 0) (by rw [List.getD_eq_getElem?_getD,List.getElem?_eq_getElem (by omega)];exact List.getElem_mem _)
    have h256:=hb.2.1
    rw [lv_LW]
    unfold T_dyad_top
    rw [Option.bind_some,wrI (n:=((LW m).length:Int)-1) (by omega) (by omega)]
    have ei:(((LW m).length:Nat):Int)-1=(((LW m).length-1:Nat):Int):=by omega
    rw [ei,at_getD 0 (by omega),Option.bind_some]
    generalize (LW m).getD ((LW m).length-1) 0=x at *
    unfold T_math_bits_Len64
    rw [cond_t (by simp;omega),Option.bind_some]
    generalize blN x.toNat=b at *
    rw [wrI (n:=64*(((LW m).length-1:Nat):Int)) (by omega) (by omega),wrI (n:=e+64*(((LW m).length-1:Nat):Int)) (by omega) (by omega),wrI (by omega) (by omega)]
    congr 1;omega
end Go.Eng
/-
  Floats and dyads on the plain side: a float's parts, the float of parts, the dyad of a float. No condition.
-/
set_option maxRecDepth 100000
set_option maxHeartbeats 400000
set_option exponentiation.threshold 70000
namespace Go.Eng
open Go
theorem nf_fin {x:Nat} (h:magF x≤9218868437227405312):nf x=x:=nf_of_not (by rw [isNaN_mag];simp;omega)
theorem abs_e {x:Nat} (h:magF x≤9218868437227405312):T_math_Abs x=some (magF x):=by
  show some (nf (magF x))=_
  rw [nf_fin (by rw [magF_magF];exact h)]
theorem inf_e {x:Nat} (h:magF x≤9218868437227405312):T_math_IsInf x 0=some (decide (magF x=9218868437227405312)):=by
  unfold T_math_IsInf
  have e:nf 9218868437227405311=9218868437227405311:=by decide +kernel
  simp only [abs_e h,Option.bind_some,beq_self_eq_true,cT,isInf_test,e]
theorem isnan_e {x:Nat} (h:magF x≤9218868437227405312):T_math_IsNaN x=some false:=by
  unfold T_math_IsNaN
  rw [feq_self,isNaN_mag,decide_eq_false (by omega)];rfl
theorem bits_e {x:Nat} (h:magF x≤9218868437227405312):T_math_Float64bits x=some (x:Int):=by
  unfold T_math_Float64bits
  rw [isNaN_mag,decide_eq_false (by omega)];rfl
theorem feq0_e (x:Nat):feq x (nf 0)=decide (magF x=0):=by rw [nf_zero,feq_zero]
theorem kind_e (x:Nat):∃ k:Int,T_bits_Kind x=some k∧decide (k>2)=decide (¬ magF x<9218868437227405312):=by
  unfold T_bits_Kind
  have e0:T_math_Abs x=some (nf (magF x)):=rfl
  rw [e0,Option.bind_some,Option.bind_some,feq_self,isNaN_mag,Bool.not_not]
  by_cases c:9218868437227405312<magF x
  · rw [decide_eq_true c,cT]
    exact ⟨4,rfl,by rw [decide_eq_true (show (4:Int)>2 by decide),decide_eq_true (by omega)]⟩
  · rw [decide_eq_false c,cF,inf_e (by omega),Option.bind_some]
    by_cases c2:magF x=9218868437227405312
    · rw [decide_eq_true c2,cT]
      exact ⟨3,rfl,by rw [decide_eq_true (show (3:Int)>2 by decide),decide_eq_true (by omega)]⟩
    · rw [decide_eq_false c2,cF,Option.bind_some]
      have hr:decide (¬ magF x<9218868437227405312)=false:=decide_eq_false (by omega)
      rw [hr]
      cases (fgt (nf (magF x)) (nf 4503599627370496)||feq (nf (magF x)) (nf 4503599627370496)) with
      | true=>exact ⟨2,rfl,rfl⟩
      | false =>
        rw [cF,Option.bind_some]
        cases fgt (nf (magF x)) (nf 0) with
        | true=>exact ⟨1,rfl,rfl⟩
        | false=>exact ⟨0,rfl,rfl⟩
theorem flt_normal {r:Nat} (h:r<9218868437227405312):flt r (nf 4503599627370496)=decide (r<4503599627370496):=by
  have e:nf 4503599627370496=4503599627370496:=by decide +kernel
  have g1:goodF r:=by unfold goodF;omega
  have g2:goodF 4503599627370496:=by unfold goodF;omega
  rw [e]
  unfold flt
  rw [order_good g1 g2]
  rcases Nat.lt_trichotomy r 4503599627370496 with c | c | c
  · rw [decide_eq_true c,Nat.compare_eq_lt.2 c];rfl
  · subst c;rfl
  · rw [decide_eq_false (by omega),Nat.compare_eq_gt.2 c];rfl
theorem c52_read:Ieee.double.read 4841369599423283200 = .number false 4503599627370496 ((52:Int)-52):=by decide +kernel
theorem normalize_e {f:Nat} {p:Int} (h:Ex f p):∃ q:Int,∃ d:Int,T_math_normalize (Ieee.double.nearest false f p)=some (Ieee.double.nearest false f q,d)∧q+d=p∧Ex f q ∧ -1022≤q+(f.log2:Int)∧(-1022≤p+(f.log2:Int)→q=p) ∧ -52≤d∧d≤0:=by
  obtain ⟨h1,h2,h3,h4,h5⟩:=near_self h
  have hlo:=h.lo
  have hhi:=h.hi
  have c52:nf 4841369599423283200=4841369599423283200:=by decide +kernel
  unfold T_math_normalize
  rw [abs_e (by omega),h1,Option.bind_some,Option.bind_some,flt_normal h3,c52]
  by_cases c : -1022≤p+(f.log2:Int)
  · obtain ⟨n1,n2,n3,n4⟩:=near_normal (s:=false) h c
    rw [word_false] at n1
    rw [decide_eq_false (by omega),cF]
    exact ⟨p,0,rfl,by omega,h,c,fun _=>rfl,by omega,by omega⟩
  · have hlt:Ieee.double.nearest false f p<4503599627370496:=by
      have hv:f*2^(p+1074).toNat<4503599627370496:=by
        have h1':f*2^(p+1074).toNat<2^(f.log2+1)*2^(p+1074).toNat:=Nat.mul_lt_mul_of_pos_right Nat.lt_log2_self (Nat.two_pow_pos _)
        rw [← Nat.pow_add] at h1'
        have h2:2^(f.log2+1+(p+1074).toNat)≤2^52:=Nat.pow_le_pow_right (by omega) (by omega)
        have e52:(2:Nat)^52=4503599627370496:=by decide
        omega
      rcases Nat.lt_or_ge (Ieee.double.nearest false f p) 4503599627370496 with g | g
      · exact g
      · have:vmag 4503599627370496≤vmag (Ieee.double.nearest false f p):=by
          rcases Nat.eq_or_lt_of_le g with g | g
          · rw [← g];exact Nat.le_refl _
          · exact Nat.le_of_lt (vmag_lt g)
        have e:vmag 4503599627370496=4503599627370496:=by decide +kernel
        omega
    have hx:Ex f (p+52):=⟨h.ne,h.lt,by omega,by omega⟩
    rw [decide_eq_true hlt,cT]
    have e:fmul (Ieee.double.nearest false f p) 4841369599423283200=Ieee.double.nearest false f (p+52):=by
      rw [fmul_comm];exact fmul_pow h c52_read
    rw [e]
    have hlog:=h.log
    have:0≤(f.log2:Int):=by omega
    exact ⟨p+52, -52,rfl,by omega,hx,by omega,fun g=>absurd g c,by omega,by omega⟩
theorem put_exp {f:Nat} {q p:Int} (hq:Ex f q) (nq : -1022≤q+(f.log2:Int)) (hp:Ex f p) (np : -1022≤p+(f.log2:Int)) {E:Nat} (hE:(E:Int)=p+(f.log2:Int)+1023) :
    (BitVec.ofInt IntKind.u64.bits ((BitVec.ofInt IntKind.u64.bits ((Ieee.double.nearest false f q:Nat):Int) &&& ~~~BitVec.ofInt IntKind.u64.bits 9218868437227405312).toNat:Int) ||| BitVec.ofInt IntKind.u64.bits ((E*4503599627370496:Nat):Int)).toNat=Ieee.double.nearest false f p:=by
  obtain ⟨a1,a2,a3,_⟩:=near_normal (s:=false) hq nq
  obtain ⟨b1,b2,b3,_⟩:=near_normal (s:=false) hp np
  obtain ⟨f1,f2⟩:=hq.frac
  have:=hp.hi
  rw [word_false] at a1 b1
  rw [and_low _ (by omega),or_exp (Nat.mod_lt _ (by omega)) (by omega),a1,b1]
  unfold nW at *
  have e1:((q+(f.log2:Int)+1022).toNat*4503599627370496+f*2^(52-f.log2))%4503599627370496=f*2^(52-f.log2)-4503599627370496:=by omega
  rw [e1]
  omega
theorem get_exp {f:Nat} {q:Int} (hq:Ex f q) (nq : -1022≤q+(f.log2:Int)):((Ieee.double.nearest false f q/4503599627370496:Nat):Int)=q+(f.log2:Int)+1023:=by
  obtain ⟨a1,a2,a3,_⟩:=near_normal (s:=false) hq nq
  obtain ⟨f1,f2⟩:=hq.frac
  rw [a1,word_false]
  unfold nW;omega
theorem sh52:min (52:Int).toNat IntKind.u64.bits=52:=by decide
theorem w64i {n:Nat} (h:n<18446744073709551616):IntKind.u64.wrap (n:Int)=(n:Int):=w64n h
theorem frexp_e {f:Nat} {p:Int} (h:Ex f p):T_math_Frexp (Ieee.double.nearest false f p)=some (Ieee.double.nearest false f (-1-(f.log2:Int)),p+(f.log2:Int)+1):=by
  obtain ⟨h1,h2,h3,h4,h5⟩:=near_self h
  have hlo:=h.lo
  have hhi:=h.hi
  have hlog:=h.log
  have hx:Ex f (-1-(f.log2:Int)):=⟨h.ne,h.lt,by omega,by omega⟩
  obtain ⟨q,d,n1,n2,n3,n4,_,n6,n7⟩:=normalize_e h
  obtain ⟨m1,m2,m3,m4,m5⟩:=near_self n3
  have m6:=n3.hi
  unfold T_math_Frexp T_math_frexp
  rw [Option.bind_some,feq0_e,h1,decide_eq_false h4,cF,inf_e (by omega),Option.bind_some,h1,decide_eq_false (by omega),Bool.not_false,cT,isnan_e (by omega),Option.bind_some,cF,n1,Option.bind_some]
  dsimp only
  rw [bits_e (by omega),Option.bind_some]
  have e1:IntKind.u64.wrap ((BitVec.ofInt IntKind.u64.bits ((Ieee.double.nearest false f q:Nat):Int) &&& ~~~BitVec.ofInt IntKind.u64.bits 9218868437227405312).toNat:Int)=((BitVec.ofInt IntKind.u64.bits ((Ieee.double.nearest false f q:Nat):Int) &&& ~~~BitVec.ofInt IntKind.u64.bits 9218868437227405312).toNat:Int):=w64i (BitVec.isLt _)
  have e2:=put_exp n3 n4 hx (by omega) (E:=1022) (by omega)
  have e3:((1022*4503599627370496:Nat):Int)=4602678819172646912:=by decide
  rw [e3] at e2
  obtain ⟨x1,x2,x3,x4,x5⟩:=near_self hx
  have e4:((Ieee.double.nearest false f q:Nat):Int).fdiv (2^52)=((Ieee.double.nearest false f q/4503599627370496:Nat):Int):=by rw [fdn]
  rw [e1,e2,w64i (by omega),sh52,e4,and_exp _ (by omega),w64i (by omega),get_exp n3 n4]
  unfold T_math_Float64frombits
  rw [Option.bind_some,Option.bind_some,Int.toNat_natCast,nf_fin (by omega)]
  dsimp only
  rw [wrI (n:=q+(f.log2:Int)+1023) (by omega) (by omega),wrI (n:=q+(f.log2:Int)+1023-1023) (by omega) (by omega),wrI (n:=q+(f.log2:Int)+1023-1023+1) (by omega) (by omega),wrI (by omega) (by omega)]
  congr 2;omega
theorem one_read:Ieee.double.read 4607182418800017408 = .number false 4503599627370496 ((0:Int)-52):=by decide +kernel
theorem small_read:Ieee.double.read 4368491638549381120 = .number false 4503599627370496 ((-53:Int)-52):=by decide +kernel
theorem ldexp_e {f:Nat} {p k:Int} (h:Ex f p) (hn : -1022≤p+(f.log2:Int)) (hr:Ex f (p+k)) (hk : -4000≤k) (hk2:k≤4000):T_math_Ldexp (Ieee.double.nearest false f p) k=some (Ieee.double.nearest false f (p+k)):=by
  obtain ⟨h1,h2,h3,h4,h5⟩:=near_self h
  have hlo:=h.lo
  have hhi:=h.hi
  have rlo:=hr.lo
  have rhi:=hr.hi
  have hlog:=h.log
  obtain ⟨q,d,n1,n2,n3,n4,n5,n6,n7⟩:=normalize_e h
  have hqp:=n5 hn
  subst hqp
  obtain rfl:d=0:=by omega
  unfold T_math_Ldexp T_math_ldexp
  have t2:(cond (!decide (magF (Ieee.double.nearest false f q)=9218868437227405312)) ((T_math_IsNaN (Ieee.double.nearest false f q)).bind fun t4=>some t4) (some true))=some false:=by
    rw [decide_eq_false (by omega),Bool.not_false,cT,isnan_e (by omega)];rfl
  rw [Option.bind_some,feq0_e,h1,decide_eq_false h4,cF,inf_e (by omega),Option.bind_some,t2,Option.bind_some,cF,n1,Option.bind_some]
  dsimp only
  rw [bits_e (by omega),Option.bind_some]
  have e4:((Ieee.double.nearest false f q:Nat):Int).fdiv (2^52)=((Ieee.double.nearest false f q/4503599627370496:Nat):Int):=by rw [fdn]
  have e1:IntKind.u64.wrap ((BitVec.ofInt IntKind.u64.bits ((Ieee.double.nearest false f q:Nat):Int) &&& ~~~BitVec.ofInt IntKind.u64.bits 9218868437227405312).toNat:Int)=((BitVec.ofInt IntKind.u64.bits ((Ieee.double.nearest false f q:Nat):Int) &&& ~~~BitVec.ofInt IntKind.u64.bits 9218868437227405312).toNat:Int):=w64i (BitVec.isLt _)
  have eX:(IntKind.i64.wrap ((IntKind.i64.wrap (k+0))+(IntKind.i64.wrap ((IntKind.i64.wrap (BitVec.ofInt IntKind.i64.bits (IntKind.i64.wrap (((Ieee.double.nearest false f q:Nat):Int).fdiv (2^(min (52:Int).toNat IntKind.u64.bits)))) &&& BitVec.ofInt IntKind.i64.bits 2047).toNat)-1023))))=q+k+(f.log2:Int):=by
    rw [sh52,e4,wrI (n:=((Ieee.double.nearest false f q/4503599627370496:Nat):Int)) (by omega) (by omega),and_expI _ (by omega),get_exp n3 n4,wrI (n:=q+(f.log2:Int)+1023) (by omega) (by omega),wrI (n:=k+0) (by omega) (by omega),wrI (n:=q+(f.log2:Int)+1023-1023) (by omega) (by omega),wrI (by omega) (by omega)]
    omega
  rw [eX,cond_f (by rw [decide_eq_false_iff_not];omega),cond_f (by rw [decide_eq_false_iff_not];omega)]
  have n1f:nf 4607182418800017408=4607182418800017408:=by decide +kernel
  have n2f:nf 4368491638549381120=4368491638549381120:=by decide +kernel
  by_cases c:q+k+(f.log2:Int) < -1022
  · have hx:Ex f (q+k+53):=⟨h.ne,h.lt,by omega,by omega⟩
    obtain ⟨x1,x2,x3,x4,x5⟩:=near_self hx
    obtain ⟨E,hE⟩:∃ E:Nat,(E:Int)=q+k+53+(f.log2:Int)+1023:=⟨(q+k+53+(f.log2:Int)+1023).toNat,by omega⟩
    have eE:IntKind.u64.wrap (IntKind.u64.wrap (IntKind.i64.wrap (IntKind.i64.wrap (q+k+(f.log2:Int)+53)+1023))*2^52)=((E*4503599627370496:Nat):Int):=by
      rw [wrI (n:=q+k+(f.log2:Int)+53) (by omega) (by omega),wrI (by omega) (by omega),show q+k+(f.log2:Int)+53+1023=(E:Int) by omega,w64i (by omega)]
      rw [show (E:Int)*2^52=((E*4503599627370496:Nat):Int) by omega,w64i (by omega)]
    rw [cond_t (by rw [decide_eq_true_eq];exact c),Option.bind_some]
    dsimp only
    rw [e1,sh52,eE,put_exp n3 n4 hx (by omega) hE,w64i (by omega)]
    unfold T_math_Float64frombits
    rw [Option.bind_some,Int.toNat_natCast,n2f,nf_fin (by omega),fmul_pow hx small_read,show q+k+53 + -53=q+k by omega];rfl
  · obtain ⟨x1,x2,x3,x4,x5⟩:=near_self hr
    obtain ⟨E,hE⟩:∃ E:Nat,(E:Int)=q+k+(f.log2:Int)+1023:=⟨(q+k+(f.log2:Int)+1023).toNat,by omega⟩
    have eE:IntKind.u64.wrap (IntKind.u64.wrap (IntKind.i64.wrap (q+k+(f.log2:Int)+1023))*2^52)=((E*4503599627370496:Nat):Int):=by
      rw [wrI (by omega) (by omega),← hE,w64i (by omega)]
      rw [show (E:Int)*2^52=((E*4503599627370496:Nat):Int) by omega,w64i (by omega)]
    rw [cond_f (by rw [decide_eq_false_iff_not];exact c),Option.bind_some]
    dsimp only
    rw [e1,sh52,eE,put_exp n3 n4 hr (by omega) hE,w64i (by omega)]
    unfold T_math_Float64frombits
    rw [Option.bind_some,Int.toNat_natCast,n1f,nf_fin (by omega),fmul_pow hr one_read,show q+k+0=q+k by omega];rfl
theorem split_zero {x:Nat} (h:magF x=0):T_bits_Split x=some (negF x,0,0,true):=by
  obtain ⟨k,h1,h2⟩:=kind_e x
  unfold T_bits_Split T_math_Signbit
  rw [h1,Option.bind_some,h2,decide_eq_false (by omega),cF,isNaN_mag,decide_eq_false (by omega),cF,Option.bind_some,Option.bind_some,feq0_e,decide_eq_true h];rfl
theorem split_e {x:Nat} (h:magF x<9218868437227405312) (h0:magF x≠0):T_bits_Split x=some (negF x,(oF (magF x):Int),oP (magF x),true):=by
  obtain ⟨k,h1,h2⟩:=kind_e x
  obtain ⟨ex,odd,hn,hv⟩:=own_ex h0 h
  unfold T_bits_Split T_math_Signbit
  rw [h1,Option.bind_some,h2,decide_eq_false (by omega),cF,isNaN_mag,decide_eq_false (by omega),cF,Option.bind_some,Option.bind_some,feq0_e,decide_eq_false h0,cF,abs_e (by omega),Option.bind_some]
  generalize oF (magF x)=f at *
  generalize oP (magF x)=p at *
  have hlo:=ex.lo
  have hhi:=ex.hi
  have hlog:=ex.log
  obtain ⟨f1,f2⟩:=ex.frac
  rw [← hn,frexp_e ex,Option.bind_some]
  dsimp only
  have hg:Ex f (52-(f.log2:Int)):=⟨ex.ne,ex.lt,by omega,by omega⟩
  have e0 : -1-(f.log2:Int)+53=52-(f.log2:Int):=by omega
  rw [ldexp_e ⟨ex.ne,ex.lt,by omega,by omega⟩ (by omega) (by rw [e0];exact hg) (by omega) (by omega),Option.bind_some,e0]
  have eg:Ieee.double.nearest false f (52-(f.log2:Int))=Ieee.double.nearest false (f*2^(52-f.log2)) 0:=by
    rw [nearest_shift false ex.ne];congr 1;omega
  rw [eg,f2i_near (by omega) f2,Option.bind_some]
  have htz:tzN (f*2^(52-f.log2))=52-f.log2:=by rw [tzN_shift _ _ ex.ne,tzN_odd odd];omega
  unfold T_math_bits_TrailingZeros64
  rw [Option.bind_some,tz64_t (by omega) (by omega),htz,nn_ok,Option.bind_some]
  have hm:min ((52-f.log2:Nat):Int).toNat IntKind.u64.bits=52-f.log2:=by
    rw [Int.toNat_natCast];exact Nat.min_eq_left (show 52-f.log2≤64 by omega)
  rw [hm,fdn,Nat.mul_div_cancel _ (Nat.two_pow_pos _),wrI (n:=p+(f.log2:Int)+1-53) (by omega) (by omega),wrI (by omega) (by omega)]
  congr 4;omega
theorem LW_one {f:Nat} (h0:f≠0) (h:f<18446744073709551616):LW f = [(f:Int)]:=by
  rw [LW_pos h0,Nat.div_eq_of_lt h,LW_zero,Nat.mod_eq_of_lt h]
theorem cano_own {x:Nat} (h:magF x<9218868437227405312) (h0:magF x≠0):cano (sval x) (-1074)=cano (sgN (negF x) (oF (magF x))) (oP (magF x)):=by
  obtain ⟨ex,odd,hn,hv⟩:=own_ex h0 h
  have hlo:=ex.lo
  rw [← cano_shift (sgN (negF x) (oF (magF x))) (oP (magF x)) (oP (magF x)+1074).toNat]
  have es:sval x=sgN (negF x) (oF (magF x))*((2^(oP (magF x)+1074).toNat:Nat):Int):=by
    unfold sval sgN
    rw [hv]
    cases negF x<;>simp [Int.neg_mul]
  rw [es];congr 1;omega
theorem of_e {x:Nat} (h:magF x<9218868437227405312):T_dyad_Of x=some (cano (sval x) (-1074)):=by
  unfold T_dyad_Of
  by_cases h0:magF x=0
  · rw [split_zero h0,Option.bind_some,(sval_zero x).2 h0];rfl
  · obtain ⟨ex,odd,hn,hv⟩:=own_ex h0 h
    rw [split_e h h0,Option.bind_some,cano_own h h0]
    have hlo:=ex.lo
    have hhi:=ex.hi
    have hlt:=ex.lt
    have hne:=ex.ne
    generalize oF (magF x)=f at *
    generalize oP (magF x)=p at *
    have hz:sgN (negF x) f≠0:=by have:=sgN_abs (negF x) f;omega
    have hs:decide (sgN (negF x) f<0)=negF x:=by
      unfold sgN
      cases negF x<;>simp;omega
    unfold cano
    rw [if_neg hz,sgN_abs,tzN_odd odd,hs]
    unfold canoO
    have hb:blN (f/2^0)≤53:=blN_le.2 (by rw [Nat.pow_zero,Nat.div_one];exact hlt)
    have hlog:0≤(f.log2:Int):=by omega
    rw [if_neg (by simp at hb ⊢;omega),Nat.pow_zero,Nat.div_one,LW_one hne (by omega)]
    dsimp only
    rw [Bool.not_true,cF,cond_f (by rw [beq_eq_false_iff_ne];omega)]
    simp
end Go.Eng
/-
  A float's parts as the document tells them, on the plain side. No condition.
-/
set_option maxRecDepth 100000
set_option maxHeartbeats 4000000
set_option exponentiation.threshold 70000
namespace Go.Eng
open Go
end Go.Eng
/-
  Rounding a dyad, on the plain side: what dyad.Round answers. No condition.
-/
set_option maxRecDepth 100000
set_option maxHeartbeats 400000
set_option exponentiation.threshold 70000
namespace Go.Eng
open Go
def rL (n:Nat) (e:Int):Int:=max (e+(blN n:Int)-53) (-1074)
def awayM (m:Int) (neg:Bool) (half:Int) (odd:Bool):Bool:=if m=1 then neg else if m=2 then !neg else if m=3 then false else decide (half>0)||(decide (half=0)&&odd)
def halfC (n c:Nat):Int:=if 2*(n%2^c)<2^c then -1 else if 2*(n%2^c)=2^c then 0 else 1
def cutV (s:Bool) (n c:Nat) (m:Int):Nat:=n/2^c+(if n%2^c≠0∧awayM m s (halfC n c) (n/2^c%2==1)=true then 1 else 0)
def rS (s:Bool) (n:Nat) (e:Int) (m:Int):Nat:=if rL n e≤e then n*2^(e-rL n e).toNat else cutV s n (rL n e-e).toNat m
def hugeV (m:Int) (s:Bool):Nat:=Ieee.double.word s (if m=3∨(m=1∧s=false)∨(m=2∧s=true) then 9218868437227405311 else 9218868437227405312)
def fltV (s:Bool) (size:Nat) (last m:Int):Nat:=if 1024<(blN size:Int)+last then hugeV m s else Ieee.double.nearest s size last
def rF (s:Bool) (n:Nat) (e m:Int):Nat:=if n=0 then 0 else fltV s (rS s n e m) (rL n e) m
theorem cutV_le (s:Bool) {n c k:Nat} (m:Int) (h:blN n≤c+k):cutV s n c m≤2^k:=by
  have h1:n/2^c<2^k:=by
    rw [Nat.div_lt_iff_lt_mul (Nat.two_pow_pos c),← Nat.pow_add,Nat.add_comm]
    exact blN_le.1 h
  unfold cutV
  split<;>omega
theorem rS_le (s:Bool) {n:Nat} (e m:Int) (h0:n≠0):rS s n e m≤9007199254740992:=by
  have e53:(2:Nat)^53=9007199254740992:=by decide
  unfold rS
  by_cases c:rL n e≤e
  · rw [if_pos c]
    have hb:blN (n*2^(e-rL n e).toNat)≤53:=by
      rw [blN_shift _ _ h0]
      unfold rL at *
      omega
    have:=blN_le.1 hb
    omega
  · rw [if_neg c]
    have:=cutV_le s (n:=n) (c:=(rL n e-e).toNat) (k:=53) m (by unfold rL at *;omega)
    omega
theorem rS_zero {s:Bool} {n:Nat} {e m:Int} (h0:n≠0) (h:rS s n e m=0):rL n e = -1074:=by
  unfold rS at h
  by_cases c:rL n e≤e
  · rw [if_pos c] at h
    have:0<n*2^(e-rL n e).toNat:=Nat.mul_pos (by omega) (Nat.two_pow_pos _)
    omega
  · rw [if_neg c] at h
    have hz:n/2^(rL n e-e).toNat=0:=by
      have:n/2^(rL n e-e).toNat≤cutV s n (rL n e-e).toNat m:=Nat.le_add_right _ _
      rw [h] at this
      exact Nat.le_zero.1 this
    have hlt:n<2^(rL n e-e).toNat:=(Nat.div_eq_zero_iff_lt (Nat.two_pow_pos _)).1 hz
    have:=blN_le.2 hlt
    unfold rL at *
    omega
theorem len64_e {f:Nat} (h:f<18446744073709551616):T_math_bits_Len64 (f:Int)=some (blN f:Int):=by
  unfold T_math_bits_Len64
  rw [cond_t (by rw [decide_eq_true_eq];omega),Int.toNat_natCast]
theorem blN_log {f:Nat} (h:f≠0):(blN f:Int)=(f.log2:Int)+1:=by unfold blN;rw [if_neg h];omega
theorem i2f_e {f:Nat} (h:Ex f 0):nf (FloatKind.f64.nearest (f:Int))=Ieee.double.nearest false f 0:=by
  have e:FloatKind.f64.nearest (f:Int)=Ieee.double.nearest (decide ((f:Int)<0)) ((f:Int).natAbs) 0:=rfl
  rw [e,decide_eq_false (by omega),Int.natAbs_natCast,near_nf h]
theorem copy_e {r:Nat} (h:r<9218868437227405312):T_math_Copysign r (nf 13830554455654793216)=some (9223372036854775808+r):=by
  have e1:nf 13830554455654793216=13830554455654793216:=by decide +kernel
  have e2:isNaN 13830554455654793216=false:=by decide +kernel
  have e3:negF 13830554455654793216=true:=by decide +kernel
  have hm:magF r=r:=good_mag (by unfold goodF;omega)
  unfold T_math_Copysign
  rw [e1,e2,cF,e3,if_pos rfl,hm,nf_fin]
  unfold magF;omega
theorem join_e (s:Bool) {f:Nat} {p:Int} (h:Ex f p) (odd:f%2=1):T_bits_Join s (f:Int) p=some (Ieee.double.nearest s f p,true):=by
  have hlo:=h.lo
  have hhi:=h.hi
  have hlt:=h.lt
  have hlog:=h.log
  have hb:=blN_log h.ne
  have h0:Ex f 0:=⟨h.ne,h.lt,by omega,by omega⟩
  obtain ⟨a1,a2,a3,a4,a5⟩:=near_self h
  unfold T_bits_Join
  rw [len64_e (by omega),Option.bind_some]
  have z:((f:Int)==0)=false:=by rw [beq_eq_false_iff_ne];omega
  have z2:((f:Int) != 0)=true:=by rw [bne_iff_ne];omega
  have z3:((f:Int).tmod 2==0)=false:=by rw [Int.tmod_eq_emod_of_nonneg (by omega),beq_eq_false_iff_ne];omega
  rw [z,cF,z2,cT,z3,Option.bind_some,cF,decide_eq_false (p:=(blN f:Int)>53) (by omega),Bool.not_false,cT,decide_eq_false (p:=p>1024) (by omega),Bool.not_false,cT,decide_eq_false (p:=p < -1074) (by omega),Bool.not_false,cT,cT,wrI (by omega) (by omega),decide_eq_false (p:=p+(blN f:Int)>1024) (by omega),Option.bind_some,cF,i2f_e h0,ldexp_e h0 (by omega) (by rw [Int.zero_add];exact h) (by omega) (by omega),Option.bind_some,Int.zero_add]
  cases s with
  | false=>rw [cF,Option.bind_some]
  | true =>
    rw [cT,copy_e a3,Option.bind_some,Option.bind_some,near_sign (s:=true) h];rfl
theorem join_zero (s:Bool):T_bits_Join s 0 0=some (Ieee.double.word s 0,true):=by cases s<;>decide +kernel
theorem near_zero (s:Bool) (p:Int):Ieee.double.nearest s 0 p=Ieee.double.word s 0:=by unfold Ieee.Format.nearest;exact if_pos rfl
theorem join_max (s:Bool):T_bits_Join s 9007199254740991 971=some (Ieee.double.word s 9218868437227405311,true):=by
  have h:Ex 9007199254740991 971:=⟨by decide,by decide,by decide,by decide⟩
  have:=join_e s h (by decide)
  have e:Ieee.double.nearest s 9007199254740991 971=Ieee.double.word s 9218868437227405311:=by cases s<;>decide +kernel
  rw [e] at this
  exact this
theorem next_max (s:Bool):T_bits_Next (Ieee.double.word s 9218868437227405311) (!s)=some (Ieee.double.word s 9218868437227405312):=by cases s<;>decide +kernel
theorem float_e (s:Bool) {size:Nat} {last m:Int} (hs:size≤9007199254740992) (h1 : -1074≤last) (h2:last≤1000000) (h0:size=0→last≤1024):T_dyad_float s (size:Int) last m=some (fltV s size last m):=by
  unfold T_dyad_float
  by_cases c0:size=0
  · subst c0
    have hl:=h0 rfl
    rw [cond_f (by simp),Option.bind_some]
    dsimp only
    have e:T_math_bits_Len64 0=some 0:=by decide
    have eb:blN 0=0:=rfl
    rw [e,Option.bind_some,cond_f (by decide),join_zero]
    unfold fltV
    rw [eb,if_neg (by omega),near_zero];rfl
  · obtain ⟨k1,k2⟩:=tz_spec c0
    have htl:=tzN_lt c0
    have hbl : blN size ≤ 54 := blN_le.2 (by have : (2 : Nat) ^ 54 = 18014398509481984 := by decide
                                             omega)
    have hf0:size/2^tzN size≠0:=by omega
    have hb2:blN size=blN (size/2^tzN size)+tzN size:=by
      conv=>lhs;rw [k1]
      exact blN_shift _ _ hf0
    have hflt:size/2^tzN size<9007199254740992:=by
      have:=Nat.div_le_self size (2^tzN size)
      rcases Nat.lt_or_ge (size/2^tzN size) 9007199254740992 with g | g
      · exact g
      · omega
    have ev:Ieee.double.nearest s size last=Ieee.double.nearest s (size/2^tzN size) (last+(tzN size:Int)):=by
      conv=>lhs;rw [k1]
      exact nearest_shift s hf0 last _
    unfold T_math_bits_TrailingZeros64 fltV
    rw [cond_t (by rw [decide_eq_true_eq];omega),Option.bind_some,tz64_t c0 (by omega),nn_ok,Option.bind_some]
    have hm:min ((tzN size:Nat):Int).toNat IntKind.u64.bits=tzN size:=by
      rw [Int.toNat_natCast];exact Nat.min_eq_left (show tzN size≤64 by omega)
    rw [hm,fdn,Option.bind_some,ev]
    dsimp only
    generalize size/2^tzN size=f at *
    generalize tzN size=t at *
    have hb:=blN_log hf0
    rw [wrI (n:=last+(t:Int)) (by omega) (by omega),len64_e (by omega),Option.bind_some,wrI (n:=(blN f:Int)+(last+(t:Int))) (by omega) (by omega)]
    by_cases c:1024<(blN size:Int)+last
    · rw [if_pos c,cond_t (by rw [decide_eq_true_eq];omega),join_max,Option.bind_some]
      dsimp only
      rw [next_max]
      unfold hugeV
      by_cases m3:m=3
      · subst m3;rw [if_pos (.inl rfl)];rfl
      · have n3:(m==3)=false:=by rw [beq_eq_false_iff_ne];exact m3
        rw [n3]
        by_cases m1:m=1
        · subst m1
          cases s<;>rfl
        · have n1:(m==1)=false:=by rw [beq_eq_false_iff_ne];exact m1
          rw [n1]
          by_cases m2:m=2
          · subst m2
            cases s<;>rfl
          · have n2:(m==2)=false:=by rw [beq_eq_false_iff_ne];exact m2
            rw [n2,if_neg (by omega)];rfl
    · have hx:Ex f (last+(t:Int)):=⟨hf0,hflt,by omega,by omega⟩
      rw [if_neg c,cond_f (by rw [decide_eq_false_iff_not];omega),join_e s hx k2];rfl
theorem away_e (m:Int) (s:Bool) (half:Int) (odd:Bool):T_dyad_away m s half odd=some (awayM m s half odd):=by
  unfold T_dyad_away awayM
  by_cases m1:m=1
  · subst m1;rfl
  · have n1:(m==1)=false:=by rw [beq_eq_false_iff_ne];exact m1
    rw [n1,cF,if_neg m1]
    by_cases m2:m=2
    · subst m2;rfl
    · have n2:(m==2)=false:=by rw [beq_eq_false_iff_ne];exact m2
      rw [n2,cF,if_neg m2]
      by_cases m3:m=3
      · subst m3;rfl
      · have n3:(m==3)=false:=by rw [beq_eq_false_iff_ne];exact m3
        rw [n3,cF,if_neg m3]
        by_cases h:half>0
        · rw [decide_eq_true h];rfl
        · rw [decide_eq_false h,Bool.not_false,cT]
          by_cases h2:half=0
          · subst h2;rfl
          · have:(half==0)=false:=by rw [beq_eq_false_iff_ne];exact h2
            rw [this,decide_eq_false h2];rfl
theorem maxI' (a:Int):(if (-1074:Int)>a then -1074 else a)=max a (-1074):=by split<;>omega
theorem round_core {s:Bool} {n:Nat} {e m:Int} (h0:n≠0) (hb:blN n≤65536) (he1 : -131072≤e) (he2:e≤131072) :
    (cond (decide ((IntKind.i64.wrap (rL n e-e))≤0))
              ((bigLsh (n:Int) (IntKind.u64.wrap (IntKind.i64.wrap (0-(IntKind.i64.wrap (rL n e-e)))))).bind fun t7=>
                (bigUint64 t7).bind fun t8=>
                some t8)
              ((bigRsh (n:Int) (IntKind.u64.wrap (IntKind.i64.wrap (rL n e-e)))).bind fun t9=>
                (bigUint64 t9).bind fun t10=>
                (bigLsh t9 (IntKind.u64.wrap (IntKind.i64.wrap (rL n e-e)))).bind fun t11=>
                (bigSub (n:Int) t11).bind fun t12=>
                (T_bn_NewInt 1).bind fun t13=>
                (bigLsh t13 (IntKind.u64.wrap (IntKind.i64.wrap ((IntKind.i64.wrap (rL n e-e))-1)))).bind fun t14=>
                (bigCmp t12 t14).bind fun t15=>
                (bigSign t12).bind fun t16=>
                cond (decide (t16>0))
                  ((T_dyad_away m s t15 ((IntKind.u64.wrap (BitVec.ofInt IntKind.u64.bits t10 &&& BitVec.ofInt IntKind.u64.bits 1).toNat)==1)).bind fun t17=>
                    (cond t17
                        (some (IntKind.u64.wrap (t10+1)))
                        (some t10)).bind fun t18=>
                    some t18)
                  ((some t10).bind fun t19=>
                    some t19)))=some ((rS s n e m:Nat):Int):=by
  have hle:=rS_le s e m h0
  have hL : -1074≤rL n e∧rL n e≤200000:=by unfold rL;omega
  obtain ⟨K,hK,hn2⟩:∃ K:Nat,K≤65536∧n<2^K:=⟨blN n,hb,blN_le.1 (Nat.le_refl _)⟩
  have hnk:((n:Nat):Int).natAbs<2^K:=hn2
  rw [wrI (n:=rL n e-e) (by omega) (by omega)]
  unfold rS at *
  by_cases c:rL n e≤e
  · rw [if_pos c] at hle ⊢
    obtain ⟨d,hd⟩:∃ d:Nat,e-rL n e=d:=⟨(e-rL n e).toNat,by omega⟩
    have hd2:(e-rL n e).toNat=d:=by omega
    rw [hd2] at hle ⊢
    rw [cond_t (by rw [decide_eq_true_eq];omega),wrI (n:=0-(rL n e-e)) (by omega) (by omega),show 0-(rL n e-e)=(d:Int) by omega,w64n (by omega)]
    have e1:bigLsh (n:Int) (d:Int)=some ((n*2^d:Nat):Int):=by
      unfold bigLsh
      have:(n:Int)*((2^d:Nat):Int)=((n*2^d:Nat):Int):=by rw [Int.natCast_mul]
      rw [if_pos ⟨by omega,by omega⟩,bgOk_b hnk (by omega),Option.bind_some,Int.toNat_natCast,this,bgOk_b (k:=54) (by rw [Int.natAbs_natCast];exact Nat.lt_of_le_of_lt hle (by decide)) (by omega)]
    rw [e1,Option.bind_some]
    unfold bigUint64
    rw [Int.natAbs_natCast,Nat.mod_eq_of_lt (by omega)];rfl
  · rw [if_neg c] at hle ⊢
    obtain ⟨d,hd⟩:∃ d:Nat,rL n e-e=(d+1:Nat):=⟨(rL n e-e).toNat-1,by omega⟩
    have hd2:(rL n e-e).toNat=d+1:=by omega
    rw [hd2] at hle ⊢
    have hp2:2^(d+1)=2*2^d:=by rw [Nat.pow_succ,Nat.mul_comm]
    have hr:n%2^(d+1)<2^(d+1):=Nat.mod_lt _ (Nat.two_pow_pos _)
    have hdm:=Nat.div_add_mod n (2^(d+1))
    have hq:n/2^(d+1)≤cutV s n (d+1) m:=Nat.le_add_right _ _
    have hmul:n/2^(d+1)*2^(d+1)≤n:=Nat.div_mul_le_self _ _
    have hqn:n/2^(d+1)≤n:=Nat.div_le_self _ _
    rw [hd,cond_f (by rw [decide_eq_false_iff_not];omega),wrI (n:=((d+1:Nat):Int)-1) (by omega) (by omega),show ((d+1:Nat):Int)-1=(d:Int) by omega,w64n (n:=d+1) (by omega),w64n (n:=d) (by omega)]
    have e1:bigRsh (n:Int) ((d+1:Nat):Int)=some ((n/2^(d+1):Nat):Int):=by
      unfold bigRsh
      rw [if_pos ⟨by omega,by omega,by omega⟩,bgOk_b hnk (by omega)]
      simp only [Option.bind_some,Int.natAbs_natCast,Int.toNat_natCast]
    rw [e1,Option.bind_some]
    unfold cutV halfC at *
    rw [Nat.mul_comm] at hdm
    generalize n/2^(d+1)=q at *
    generalize n%2^(d+1)=r at *
    have e2:bigUint64 (q:Int)=some (q:Int):=by
      unfold bigUint64
      rw [Int.natAbs_natCast,Nat.mod_eq_of_lt (by omega)]
    have e3:bigLsh (q:Int) ((d+1:Nat):Int)=some ((q*2^(d+1):Nat):Int):=by
      unfold bigLsh
      have:(q:Int)*((2^(d+1):Nat):Int)=((q*2^(d+1):Nat):Int):=by rw [Int.natCast_mul]
      rw [if_pos ⟨by omega,by omega⟩,bgOk_b (k:=K) (by rw [Int.natAbs_natCast];exact Nat.lt_of_le_of_lt hqn hn2) (by omega),Option.bind_some,Int.toNat_natCast,this,bgOk_b (k:=K) (by rw [Int.natAbs_natCast];exact Nat.lt_of_le_of_lt hmul hn2) (by omega)]
    have e4:bigSub (n:Int) ((q*2^(d+1):Nat):Int)=some (r:Int):=by
      unfold bigSub
      rw [bgOk_b hnk (by omega),Option.bind_some,bgOk_b (k:=K) (by rw [Int.natAbs_natCast];exact Nat.lt_of_le_of_lt hmul hn2) (by omega),Option.bind_some]
      refine congrArg some ?_
      generalize q*2^(d+1)=Q at *
      omega
    have e5:T_bn_NewInt 1=some 1:=by decide
    have e6:bigLsh 1 (d:Int)=some ((2^d:Nat):Int):=by
      unfold bigLsh
      rw [if_pos ⟨by omega,by omega⟩,show bgOk 1=some 1 by decide,Option.bind_some,Int.toNat_natCast,Int.one_mul,bgOk_b (k:=d+1) (by rw [Int.natAbs_natCast];exact Nat.pow_lt_pow_right (by omega) (by omega)) (by omega)]
    have e7:bigCmp (r:Int) ((2^d:Nat):Int)=some (if 2*r<2^(d+1) then -1 else if 2*r=2^(d+1) then 0 else 1):=by
      unfold bigCmp
      rw [bgOk_b (k:=d+1) (by rw [Int.natAbs_natCast];exact hr) (by omega),Option.bind_some,bgOk_b (k:=d+1) (by rw [Int.natAbs_natCast];exact Nat.pow_lt_pow_right (by omega) (by omega)) (by omega),Option.bind_some]
      rw [hp2]
      generalize 2^d=P at *
      refine congrArg some ?_
      by_cases g1:r<P
      · rw [if_pos (by omega),if_pos (by omega)]
      · by_cases g2:r=P
        · rw [if_neg (by omega),if_pos (by omega),if_neg (by omega),if_pos (by omega)]
        · rw [if_neg (by omega),if_neg (by omega),if_neg (by omega),if_neg (by omega)]
    have e8:∃ y,bigSign (r:Int)=some y∧decide (y>0)=decide (r≠0):=by
      refine ⟨_,rfl,?_⟩
      by_cases g:r=0
      · subst g;rfl
      · rw [if_neg (by omega),if_neg (by omega),decide_eq_true g];rfl
    obtain ⟨y,e8,e9⟩:=e8
    rw [e2,Option.bind_some,e3,Option.bind_some,e4,Option.bind_some,e5,Option.bind_some,e6,Option.bind_some,e7,Option.bind_some,e8,Option.bind_some,e9,even1 (by omega) (by omega),away_e,Option.bind_some]
    have e10:((q:Int)%2==1)=(q%2==1):=by
      rw [Bool.eq_iff_iff,beq_iff_eq,beq_iff_eq];omega
    rw [e10]
    generalize (if 2*r<2^(d+1) then (-1:Int) else if 2*r=2^(d+1) then 0 else 1)=hf at *
    by_cases g:r=0
    · rw [decide_eq_false (fun k=>k g),cF,if_neg (fun k=>k.1 g)];rfl
    · rw [decide_eq_true g,cT]
      cases ha:awayM m s hf (q%2==1) with
      | false=>rw [cF,if_neg (fun k=>by simp at k)];rfl
      | true =>
        rw [ha,if_pos ⟨g,rfl⟩] at hle
        rw [cT,if_pos ⟨g,rfl⟩,Option.bind_some]
        refine congrArg some ?_
        exact w64n (n:=q+1) (by omega)
theorem round_e {s:Bool} {l:List Int} {e m:Int} (h:Gd s l e):T_dyad_Round s l e m=some (rF s (lv l) e m,0):=by
  have hd:=h.ld
  unfold T_dyad_Round rF
  rw [right_of h,Option.bind_some,Bool.not_true,cF,Option.bind_some]
  by_cases c:l = []
  · subst c;rw [cond_t (by rfl),nf_zero];rfl
  · have hlen:l.length≠0:=fun g=>c (List.eq_nil_of_length_eq_zero g)
    have hz:zD s l≠0:=fun g=>c (h.z_zero.1 g)
    have hlv:lv l≠0:=by have:=zD_abs s l;omega
    have hbn:blN (lv l)≤16384:=blN_le.2 hd.2.2.2.2
    have e1:bigAbs (zD s l)=some ((lv l:Nat):Int):=by
      unfold bigAbs
      rw [bgOk_b (k:=16384) (by rw [zD_abs];exact hd.2.2.2.2) (by omega),Option.bind_some,zD_abs]
    rw [cond_f (by rw [beq_eq_false_iff_ne];omega),whole_gd h,Option.bind_some,e1,Option.bind_some,top_gd h hz,Option.bind_some,wrI (n:=e+(blN (lv l):Int)-53) (by omega) (by omega),maxI',if_neg hlv]
    have eL:max (e+(blN (lv l):Int)-53) (-1074)=rL (lv l) e:=rfl
    have hL : -1074≤rL (lv l) e∧rL (lv l) e≤200000:=by unfold rL;omega
    have z:=fun g=>rS_zero (s:=s) (e:=e) (m:=m) hlv g
    rw [eL,round_core (s:=s) (m:=m) hlv (by omega) (by omega) (by omega),Option.bind_some,float_e s (rS_le s e m hlv) hL.1 (by omega) (fun g=>by rw [z g];omega)];rfl
end Go.Eng
/-
  What is a float exactly, on the plain side: it is rounded to itself; a float's dyad by its own odd number. No condition.
-/
set_option maxRecDepth 100000
set_option maxHeartbeats 400000
set_option exponentiation.threshold 70000
namespace Go.Eng
open Go
theorem own_gd {x:Nat} (h:magF x<9218868437227405312) (h0:magF x≠0):Gd (negF x) [(oF (magF x):Int)] (oP (magF x)):=by
  obtain ⟨ex,odd,hn,hv⟩:=own_ex h0 h
  have hlo:=ex.lo
  have hhi:=ex.hi
  have hlt:=ex.lt
  have hne:=ex.ne
  refine .inr ⟨oF (magF x),odd,(LW_one hne (by omega)).symm,by omega,by omega,?_⟩
  have:blN (oF (magF x))≤53:=blN_le.2 hlt
  omega
theorem of_own {x:Nat} (h:magF x<9218868437227405312) (h0:magF x≠0):T_dyad_Of x=some (negF x,[(oF (magF x):Int)],oP (magF x),0):=by
  have:=cano_gd (own_gd h h0)
  rw [of_e h,cano_own h h0,← this]
  have e:zD (negF x) [(oF (magF x):Int)]=sgN (negF x) (oF (magF x)):=by unfold zD;simp [lv]
  rw [e]
end Go.Eng
/-
  The dyad of a finite float, by its number. No condition.
-/
set_option maxRecDepth 100000
set_option maxHeartbeats 400000
set_option exponentiation.threshold 140000
namespace Go.Eng
open Go
theorem of_num {x:Nat} (h:magF x<9218868437227405312):∃ s l f,T_dyad_Of x=some (s,l,f,0)∧Gd s l f∧nD s l f=sval x*((2^64462:Nat):Int):=by
  have ho:=of_e h
  have sh:=cano_shift (sval x) (-1074) 64462
  rw [show (-1074:Int)-((64462:Nat):Int) = -65536 by omega] at sh
  by_cases h0:magF x=0
  · refine ⟨false,[],0,?_,.inl ⟨rfl,rfl,rfl⟩,?_⟩
    · rw [ho,(sval_zero x).2 h0];rfl
    · rw [(sval_zero x).2 h0,Int.zero_mul]
      unfold nD zD sgN lv;simp
  · refine ⟨_,_,_,of_own h h0,own_gd h h0,?_⟩
    have e1:=of_own h h0
    rw [ho,← sh] at e1
    injection e1 with e1
    have:=(cano_num (k:=0) (by rw [show (-65536:Int)-((0:Nat):Int) = -65536 by omega];exact e1)).2
    rw [Nat.pow_zero] at this
    simpa using this
end Go.Eng
