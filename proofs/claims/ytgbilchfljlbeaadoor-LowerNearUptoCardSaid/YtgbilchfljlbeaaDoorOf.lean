
/-
  Dyads on the plain side: tops. No condition.
-/
import Derived.Test.YtgbilchfljlbeaaDoorDy2
import Derived.Test.YtgbilchfljlbeaaDoorFe
import Derived.Test.YtgbilchfljlbeaaDoorOpp
set_option linter.all false
set_option maxRecDepth 100000
set_option maxHeartbeats 400000
set_option exponentiation.threshold 70000
namespace Go.Eng
open Go
theorem blN_LW {m:Nat} (h:m≠0):blN m=64*((LW m).length-1)+blN ((LW m).getD ((LW m).length-1) 0).toNat:=by
  induction m using LW_ind with
  | h0=>exact absurd rfl h
  | h n h0 ih=>
    by_cases c:n/18446744073709551616=0
    · have hn:n<18446744073709551616:=by omega
      rw [LW_pos h0,c,LW_zero]
      simp
      congr 1
      omega
    · have ih:=ih c
      have hl:LW (n/18446744073709551616) ≠ []:=fun c'=>c (LW_nil.1 c')
      have hlen:=List.length_pos_iff.2 hl
      rw [LW_pos h0,List.length_cons]
      have e1:((n%18446744073709551616:Nat):Int)::LW (n/18446744073709551616)=((n%18446744073709551616:Nat):Int)::LW (n/18446744073709551616):=rfl
      have e2:(((n%18446744073709551616:Nat):Int)::LW (n/18446744073709551616)).getD ((LW (n/18446744073709551616)).length+1-1) 0=(LW (n/18446744073709551616)).getD ((LW (n/18446744073709551616)).length-1) 0:=by
        obtain ⟨k,hk⟩:∃ k,(LW (n/18446744073709551616)).length=k+1:=⟨(LW (n/18446744073709551616)).length-1,by omega⟩
        rw [hk];simp
      rw [e2]
      have e3:blN n=blN (n/18446744073709551616)+64:=by
        have lo:(n/18446744073709551616).log2+64=n.log2:=by
          have h1:=Nat.log2_self_le c
          have h2:=@Nat.lt_log2_self (n/18446744073709551616)
          symm
          rw [Nat.log2_eq_iff h0]
          constructor
          · rw [Nat.pow_add,show (2:Nat)^64=18446744073709551616 by decide]
            exact Nat.le_trans (Nat.mul_le_mul_right _ h1) (Nat.div_mul_le_self _ _)
          · rw [show (n/18446744073709551616).log2+64+1=((n/18446744073709551616).log2+1)+64 by omega,Nat.pow_add,show (2:Nat)^64=18446744073709551616 by decide]
            exact (Nat.div_lt_iff_lt_mul (by omega)).1 h2
        unfold blN
        rw [if_neg h0,if_neg c];omega
      rw [e3,ih];omega
theorem top_gd {s:Bool} {l:List Int} {e:Int} (h:Gd s l e) (h0:zD s l≠0):T_dyad_top s l e=some (e+(blN (lv l):Int)):=by
  have hb:=h.ld
  rcases h with ⟨h1,_,_⟩ | ⟨m,h1,rfl,h3,h4,h5⟩
  · subst h1;exact absurd (by unfold zD sgN lv;cases s<;>rfl) h0
  · have hm:m≠0:=by omega
    have hl:LW m ≠ []:=fun c=>hm (LW_nil.1 c)
    have hlen:=List.length_pos_iff.2 hl
    have hbl:=blN_LW hm
    have hx:=hb.1 ((LW m).getD ((LW m).length-1) 0) (by rw [List.getD_eq_getElem?_getD,List.getElem?_eq_getElem (by omega)];exact List.getElem_mem _)
    have h256:=hb.2.1
    rw [lv_LW]
    unfold T_dyad_top
    rw [Option.bind_some,wrI (n:=((LW m).length:Int)-1) (by omega) (by omega)]
    have ei:(((LW m).length:Nat):Int)-1=(((LW m).length-1:Nat):Int):=by omega
    rw [ei,at_getD 0 (by omega),Option.bind_some]
    generalize (LW m).getD ((LW m).length-1) 0=x at *
    unfold T_math_bits_Len64
    rw [cond_t (by simp;omega),Option.bind_some]
    generalize blN x.toNat=b at *
    rw [wrI (n:=64*(((LW m).length-1:Nat):Int)) (by omega) (by omega),wrI (n:=e+64*(((LW m).length-1:Nat):Int)) (by omega) (by omega),wrI (by omega) (by omega)]
    congr 1;omega
end Go.Eng
/-
  Floats and dyads on the plain side: a float's parts, the float of parts, the dyad of a float. No condition.
-/
set_option maxRecDepth 100000
set_option maxHeartbeats 400000
set_option exponentiation.threshold 70000
namespace Go.Eng
open Go
theorem nf_fin {x:Nat} (h:magF x≤9218868437227405312):nf x=x:=nf_of_not (by rw [isNaN_mag];simp;omega)
theorem abs_e {x:Nat} (h:magF x≤9218868437227405312):T_math_Abs x=some (magF x):=by
  show some (nf (magF x))=_
  rw [nf_fin (by rw [magF_magF];exact h)]
theorem inf_e {x:Nat} (h:magF x≤9218868437227405312):T_math_IsInf x 0=some (decide (magF x=9218868437227405312)):=by
  unfold T_math_IsInf
  have e:nf 9218868437227405311=9218868437227405311:=by decide +kernel
  simp only [abs_e h,Option.bind_some,beq_self_eq_true,cT,isInf_test,e]
theorem isnan_e {x:Nat} (h:magF x≤9218868437227405312):T_math_IsNaN x=some false:=by
  unfold T_math_IsNaN
  rw [feq_self,isNaN_mag,decide_eq_false (by omega)];rfl
theorem bits_e {x:Nat} (h:magF x≤9218868437227405312):T_math_Float64bits x=some (x:Int):=by
  unfold T_math_Float64bits
  rw [isNaN_mag,decide_eq_false (by omega)];rfl
theorem feq0_e (x:Nat):feq x (nf 0)=decide (magF x=0):=by rw [nf_zero,feq_zero]
theorem kind_e (x:Nat):∃ k:Int,T_bits_Kind x=some k∧decide (k>2)=decide (¬ magF x<9218868437227405312):=by
  unfold T_bits_Kind
  have e0:T_math_Abs x=some (nf (magF x)):=rfl
  rw [e0,Option.bind_some,Option.bind_some,feq_self,isNaN_mag,Bool.not_not]
  by_cases c:9218868437227405312<magF x
  · rw [decide_eq_true c,cT]
    exact ⟨4,rfl,by rw [decide_eq_true (show (4:Int)>2 by decide),decide_eq_true (by omega)]⟩
  · rw [decide_eq_false c,cF,inf_e (by omega),Option.bind_some]
    by_cases c2:magF x=9218868437227405312
    · rw [decide_eq_true c2,cT]
      exact ⟨3,rfl,by rw [decide_eq_true (show (3:Int)>2 by decide),decide_eq_true (by omega)]⟩
    · rw [decide_eq_false c2,cF,Option.bind_some]
      have hr:decide (¬ magF x<9218868437227405312)=false:=decide_eq_false (by omega)
      rw [hr]
      cases (fgt (nf (magF x)) (nf 4503599627370496)||feq (nf (magF x)) (nf 4503599627370496)) with
      | true=>exact ⟨2,rfl,rfl⟩
      | false=>
        rw [cF,Option.bind_some]
        cases fgt (nf (magF x)) (nf 0) with
        | true=>exact ⟨1,rfl,rfl⟩
        | false=>exact ⟨0,rfl,rfl⟩
theorem flt_normal {r:Nat} (h:r<9218868437227405312):flt r (nf 4503599627370496)=decide (r<4503599627370496):=by
  have e:nf 4503599627370496=4503599627370496:=by decide +kernel
  have g1:goodF r:=by unfold goodF;omega
  have g2:goodF 4503599627370496:=by unfold goodF;omega
  rw [e]
  unfold flt
  rw [order_good g1 g2]
  rcases Nat.lt_trichotomy r 4503599627370496 with c | c | c
  · rw [decide_eq_true c,Nat.compare_eq_lt.2 c];rfl
  · subst c;rfl
  · rw [decide_eq_false (by omega),Nat.compare_eq_gt.2 c];rfl
theorem c52_read:Ieee.double.read 4841369599423283200 = .number false 4503599627370496 ((52:Int)-52):=by decide +kernel
theorem normalize_e {f:Nat} {p:Int} (h:Ex f p):∃ q:Int,∃ d:Int,T_math_normalize (Ieee.double.nearest false f p)=some (Ieee.double.nearest false f q,d)∧q+d=p∧Ex f q ∧ -1022≤q+(f.log2:Int)∧(-1022≤p+(f.log2:Int)→q=p) ∧ -52≤d∧d≤0:=by
  obtain ⟨h1,h2,h3,h4,h5⟩:=near_self h
  have hlo:=h.lo
  have hhi:=h.hi
  have c52:nf 4841369599423283200=4841369599423283200:=by decide +kernel
  unfold T_math_normalize
  rw [abs_e (by omega),h1,Option.bind_some,Option.bind_some,flt_normal h3,c52]
  by_cases c : -1022≤p+(f.log2:Int)
  · obtain ⟨n1,n2,n3,n4⟩:=near_normal (s:=false) h c
    rw [word_false] at n1
    rw [decide_eq_false (by omega),cF]
    exact ⟨p,0,rfl,by omega,h,c,fun _=>rfl,by omega,by omega⟩
  · have hlt:Ieee.double.nearest false f p<4503599627370496:=by
      have hv:f*2^(p+1074).toNat<4503599627370496:=by
        have h1':f*2^(p+1074).toNat<2^(f.log2+1)*2^(p+1074).toNat:=Nat.mul_lt_mul_of_pos_right Nat.lt_log2_self (Nat.two_pow_pos _)
        rw [← Nat.pow_add] at h1'
        have h2:2^(f.log2+1+(p+1074).toNat)≤2^52:=Nat.pow_le_pow_right (by omega) (by omega)
        have e52:(2:Nat)^52=4503599627370496:=by decide
        omega
      rcases Nat.lt_or_ge (Ieee.double.nearest false f p) 4503599627370496 with g | g
      · exact g
      · have:vmag 4503599627370496≤vmag (Ieee.double.nearest false f p):=by
          rcases Nat.eq_or_lt_of_le g with g | g
          · rw [← g];exact Nat.le_refl _
          · exact Nat.le_of_lt (vmag_lt g)
        have e:vmag 4503599627370496=4503599627370496:=by decide +kernel
        omega
    have hx:Ex f (p+52):=⟨h.ne,h.lt,by omega,by omega⟩
    rw [decide_eq_true hlt,cT]
    have e:fmul (Ieee.double.nearest false f p) 4841369599423283200=Ieee.double.nearest false f (p+52):=by
      rw [fmul_comm];exact fmul_pow h c52_read
    rw [e]
    have hlog:=h.log
    have:0≤(f.log2:Int):=by omega
    exact ⟨p+52, -52,rfl,by omega,hx,by omega,fun g=>absurd g c,by omega,by omega⟩
theorem put_exp {f:Nat} {q p:Int} (hq:Ex f q) (nq : -1022≤q+(f.log2:Int)) (hp:Ex f p) (np : -1022≤p+(f.log2:Int)) {E:Nat} (hE:(E:Int)=p+(f.log2:Int)+1023) :
    (BitVec.ofInt IntKind.u64.bits ((BitVec.ofInt IntKind.u64.bits ((Ieee.double.nearest false f q:Nat):Int) &&& ~~~BitVec.ofInt IntKind.u64.bits 9218868437227405312).toNat:Int) ||| BitVec.ofInt IntKind.u64.bits ((E*4503599627370496:Nat):Int)).toNat=Ieee.double.nearest false f p:=by
  obtain ⟨a1,a2,a3,_⟩:=near_normal (s:=false) hq nq
  obtain ⟨b1,b2,b3,_⟩:=near_normal (s:=false) hp np
  obtain ⟨f1,f2⟩:=hq.frac
  have:=hp.hi
  rw [word_false] at a1 b1
  rw [and_low _ (by omega),or_exp (Nat.mod_lt _ (by omega)) (by omega),a1,b1]
  unfold nW at *
  have e1:((q+(f.log2:Int)+1022).toNat*4503599627370496+f*2^(52-f.log2))%4503599627370496=f*2^(52-f.log2)-4503599627370496:=by omega
  rw [e1]
  omega
theorem get_exp {f:Nat} {q:Int} (hq:Ex f q) (nq : -1022≤q+(f.log2:Int)):((Ieee.double.nearest false f q/4503599627370496:Nat):Int)=q+(f.log2:Int)+1023:=by
  obtain ⟨a1,a2,a3,_⟩:=near_normal (s:=false) hq nq
  obtain ⟨f1,f2⟩:=hq.frac
  rw [a1,word_false]
  unfold nW;omega
theorem sh52:min (52:Int).toNat IntKind.u64.bits=52:=by decide
theorem w64i {n:Nat} (h:n<18446744073709551616):IntKind.u64.wrap (n:Int)=(n:Int):=w64n h
theorem frexp_e {f:Nat} {p:Int} (h:Ex f p):T_math_Frexp (Ieee.double.nearest false f p)=some (Ieee.double.nearest false f (-1-(f.log2:Int)),p+(f.log2:Int)+1):=by
  obtain ⟨h1,h2,h3,h4,h5⟩:=near_self h
  have hlo:=h.lo
  have hhi:=h.hi
  have hlog:=h.log
  have hx:Ex f (-1-(f.log2:Int)):=⟨h.ne,h.lt,by omega,by omega⟩
  obtain ⟨q,d,n1,n2,n3,n4,_,n6,n7⟩:=normalize_e h
  obtain ⟨m1,m2,m3,m4,m5⟩:=near_self n3
  have m6:=n3.hi
  unfold T_math_Frexp T_math_frexp
  rw [Option.bind_some,feq0_e,h1,decide_eq_false h4,cF,inf_e (by omega),Option.bind_some,h1,decide_eq_false (by omega),Bool.not_false,cT,isnan_e (by omega),Option.bind_some,cF,n1,Option.bind_some]
  dsimp only
  rw [bits_e (by omega),Option.bind_some]
  have e1:IntKind.u64.wrap ((BitVec.ofInt IntKind.u64.bits ((Ieee.double.nearest false f q:Nat):Int) &&& ~~~BitVec.ofInt IntKind.u64.bits 9218868437227405312).toNat:Int)=((BitVec.ofInt IntKind.u64.bits ((Ieee.double.nearest false f q:Nat):Int) &&& ~~~BitVec.ofInt IntKind.u64.bits 9218868437227405312).toNat:Int):=w64i (BitVec.isLt _)
  have e2:=put_exp n3 n4 hx (by omega) (E:=1022) (by omega)
  have e3:((1022*4503599627370496:Nat):Int)=4602678819172646912:=by decide
  rw [e3] at e2
  obtain ⟨x1,x2,x3,x4,x5⟩:=near_self hx
  have e4:((Ieee.double.nearest false f q:Nat):Int).fdiv (2^52)=((Ieee.double.nearest false f q/4503599627370496:Nat):Int):=by rw [fdn]
  rw [e1,e2,w64i (by omega),sh52,e4,and_exp _ (by omega),w64i (by omega),get_exp n3 n4]
  unfold T_math_Float64frombits
  rw [Option.bind_some,Option.bind_some,Int.toNat_natCast,nf_fin (by omega)]
  dsimp only
  rw [wrI (n:=q+(f.log2:Int)+1023) (by omega) (by omega),wrI (n:=q+(f.log2:Int)+1023-1023) (by omega) (by omega),wrI (n:=q+(f.log2:Int)+1023-1023+1) (by omega) (by omega),wrI (by omega) (by omega)]
  congr 2;omega
theorem one_read:Ieee.double.read 4607182418800017408 = .number false 4503599627370496 ((0:Int)-52):=by decide +kernel
theorem small_read:Ieee.double.read 4368491638549381120 = .number false 4503599627370496 ((-53:Int)-52):=by decide +kernel
theorem ldexp_e {f:Nat} {p k:Int} (h:Ex f p) (hn : -1022≤p+(f.log2:Int)) (hr:Ex f (p+k)) (hk : -4000≤k) (hk2:k≤4000):T_math_Ldexp (Ieee.double.nearest false f p) k=some (Ieee.double.nearest false f (p+k)):=by
  obtain ⟨h1,h2,h3,h4,h5⟩:=near_self h
  have hlo:=h.lo
  have hhi:=h.hi
  have rlo:=hr.lo
  have rhi:=hr.hi
  have hlog:=h.log
  obtain ⟨q,d,n1,n2,n3,n4,n5,n6,n7⟩:=normalize_e h
  have hqp:=n5 hn
  subst hqp
  obtain rfl:d=0:=by omega
  unfold T_math_Ldexp T_math_ldexp
  have t2:(cond (!decide (magF (Ieee.double.nearest false f q)=9218868437227405312)) ((T_math_IsNaN (Ieee.double.nearest false f q)).bind fun t4=>some t4) (some true))=some false:=by
    rw [decide_eq_false (by omega),Bool.not_false,cT,isnan_e (by omega)];rfl
  rw [Option.bind_some,feq0_e,h1,decide_eq_false h4,cF,inf_e (by omega),Option.bind_some,t2,Option.bind_some,cF,n1,Option.bind_some]
  dsimp only
  rw [bits_e (by omega),Option.bind_some]
  have e4:((Ieee.double.nearest false f q:Nat):Int).fdiv (2^52)=((Ieee.double.nearest false f q/4503599627370496:Nat):Int):=by rw [fdn]
  have e1:IntKind.u64.wrap ((BitVec.ofInt IntKind.u64.bits ((Ieee.double.nearest false f q:Nat):Int) &&& ~~~BitVec.ofInt IntKind.u64.bits 9218868437227405312).toNat:Int)=((BitVec.ofInt IntKind.u64.bits ((Ieee.double.nearest false f q:Nat):Int) &&& ~~~BitVec.ofInt IntKind.u64.bits 9218868437227405312).toNat:Int):=w64i (BitVec.isLt _)
  have eX:(IntKind.i64.wrap ((IntKind.i64.wrap (k+0))+(IntKind.i64.wrap ((IntKind.i64.wrap (BitVec.ofInt IntKind.i64.bits (IntKind.i64.wrap (((Ieee.double.nearest false f q:Nat):Int).fdiv (2^(min (52:Int).toNat IntKind.u64.bits)))) &&& BitVec.ofInt IntKind.i64.bits 2047).toNat)-1023))))=q+k+(f.log2:Int):=by
    rw [sh52,e4,wrI (n:=((Ieee.double.nearest false f q/4503599627370496:Nat):Int)) (by omega) (by omega),and_expI _ (by omega),get_exp n3 n4,wrI (n:=q+(f.log2:Int)+1023) (by omega) (by omega),wrI (n:=k+0) (by omega) (by omega),wrI (n:=q+(f.log2:Int)+1023-1023) (by omega) (by omega),wrI (by omega) (by omega)]
    omega
  rw [eX,cond_f (by rw [decide_eq_false_iff_not];omega),cond_f (by rw [decide_eq_false_iff_not];omega)]
  have n1f:nf 4607182418800017408=4607182418800017408:=by decide +kernel
  have n2f:nf 4368491638549381120=4368491638549381120:=by decide +kernel
  by_cases c:q+k+(f.log2:Int) < -1022
  · have hx:Ex f (q+k+53):=⟨h.ne,h.lt,by omega,by omega⟩
    obtain ⟨x1,x2,x3,x4,x5⟩:=near_self hx
    obtain ⟨E,hE⟩:∃ E:Nat,(E:Int)=q+k+53+(f.log2:Int)+1023:=⟨(q+k+53+(f.log2:Int)+1023).toNat,by omega⟩
    have eE:IntKind.u64.wrap (IntKind.u64.wrap (IntKind.i64.wrap (IntKind.i64.wrap (q+k+(f.log2:Int)+53)+1023))*2^52)=((E*4503599627370496:Nat):Int):=by
      rw [wrI (n:=q+k+(f.log2:Int)+53) (by omega) (by omega),wrI (by omega) (by omega),show q+k+(f.log2:Int)+53+1023=(E:Int) by omega,w64i (by omega)]
      rw [show (E:Int)*2^52=((E*4503599627370496:Nat):Int) by omega,w64i (by omega)]
    rw [cond_t (by rw [decide_eq_true_eq];exact c),Option.bind_some]
    dsimp only
    rw [e1,sh52,eE,put_exp n3 n4 hx (by omega) hE,w64i (by omega)]
    unfold T_math_Float64frombits
    rw [Option.bind_some,Int.toNat_natCast,n2f,nf_fin (by omega),fmul_pow hx small_read,show q+k+53 + -53=q+k by omega];rfl
  · obtain ⟨x1,x2,x3,x4,x5⟩:=near_self hr
    obtain ⟨E,hE⟩:∃ E:Nat,(E:Int)=q+k+(f.log2:Int)+1023:=⟨(q+k+(f.log2:Int)+1023).toNat,by omega⟩
    have eE:IntKind.u64.wrap (IntKind.u64.wrap (IntKind.i64.wrap (q+k+(f.log2:Int)+1023))*2^52)=((E*4503599627370496:Nat):Int):=by
      rw [wrI (by omega) (by omega),← hE,w64i (by omega)]
      rw [show (E:Int)*2^52=((E*4503599627370496:Nat):Int) by omega,w64i (by omega)]
    rw [cond_f (by rw [decide_eq_false_iff_not];exact c),Option.bind_some]
    dsimp only
    rw [e1,sh52,eE,put_exp n3 n4 hr (by omega) hE,w64i (by omega)]
    unfold T_math_Float64frombits
    rw [Option.bind_some,Int.toNat_natCast,n1f,nf_fin (by omega),fmul_pow hr one_read,show q+k+0=q+k by omega];rfl
theorem split_zero {x:Nat} (h:magF x=0):T_bits_Split x=some (negF x,0,0,true):=by
  obtain ⟨k,h1,h2⟩:=kind_e x
  unfold T_bits_Split T_math_Signbit
  rw [h1,Option.bind_some,h2,decide_eq_false (by omega),cF,isNaN_mag,decide_eq_false (by omega),cF,Option.bind_some,Option.bind_some,feq0_e,decide_eq_true h];rfl
theorem split_e {x:Nat} (h:magF x<9218868437227405312) (h0:magF x≠0):T_bits_Split x=some (negF x,(oF (magF x):Int),oP (magF x),true):=by
  obtain ⟨k,h1,h2⟩:=kind_e x
  obtain ⟨ex,odd,hn,hv⟩:=own_ex h0 h
  unfold T_bits_Split T_math_Signbit
  rw [h1,Option.bind_some,h2,decide_eq_false (by omega),cF,isNaN_mag,decide_eq_false (by omega),cF,Option.bind_some,Option.bind_some,feq0_e,decide_eq_false h0,cF,abs_e (by omega),Option.bind_some]
  generalize oF (magF x)=f at *
  generalize oP (magF x)=p at *
  have hlo:=ex.lo
  have hhi:=ex.hi
  have hlog:=ex.log
  obtain ⟨f1,f2⟩:=ex.frac
  rw [← hn,frexp_e ex,Option.bind_some]
  dsimp only
  have hg:Ex f (52-(f.log2:Int)):=⟨ex.ne,ex.lt,by omega,by omega⟩
  have e0 : -1-(f.log2:Int)+53=52-(f.log2:Int):=by omega
  rw [ldexp_e ⟨ex.ne,ex.lt,by omega,by omega⟩ (by omega) (by rw [e0];exact hg) (by omega) (by omega),Option.bind_some,e0]
  have eg:Ieee.double.nearest false f (52-(f.log2:Int))=Ieee.double.nearest false (f*2^(52-f.log2)) 0:=by
    rw [nearest_shift false ex.ne];congr 1;omega
  rw [eg,f2i_near (by omega) f2,Option.bind_some]
  have htz:tzN (f*2^(52-f.log2))=52-f.log2:=by rw [tzN_shift _ _ ex.ne,tzN_odd odd];omega
  unfold T_math_bits_TrailingZeros64
  rw [Option.bind_some,tz64_t (by omega) (by omega),htz,nn_ok,Option.bind_some]
  have hm:min ((52-f.log2:Nat):Int).toNat IntKind.u64.bits=52-f.log2:=by
    rw [Int.toNat_natCast];exact Nat.min_eq_left (show 52-f.log2≤64 by omega)
  rw [hm,fdn,Nat.mul_div_cancel _ (Nat.two_pow_pos _),wrI (n:=p+(f.log2:Int)+1-53) (by omega) (by omega),wrI (by omega) (by omega)]
  congr 4;omega
theorem LW_one {f:Nat} (h0:f≠0) (h:f<18446744073709551616):LW f = [(f:Int)]:=by
  rw [LW_pos h0,Nat.div_eq_of_lt h,LW_zero,Nat.mod_eq_of_lt h]
theorem cano_own {x:Nat} (h:magF x<9218868437227405312) (h0:magF x≠0):cano (sval x) (-1074)=cano (sgN (negF x) (oF (magF x))) (oP (magF x)):=by
  obtain ⟨ex,odd,hn,hv⟩:=own_ex h0 h
  have hlo:=ex.lo
  rw [← cano_shift (sgN (negF x) (oF (magF x))) (oP (magF x)) (oP (magF x)+1074).toNat]
  have es:sval x=sgN (negF x) (oF (magF x))*((2^(oP (magF x)+1074).toNat:Nat):Int):=by
    unfold sval sgN
    rw [hv]
    cases negF x<;>simp [Int.neg_mul]
  rw [es];congr 1;omega
theorem of_e {x:Nat} (h:magF x<9218868437227405312):T_dyad_Of x=some (cano (sval x) (-1074)):=by
  unfold T_dyad_Of
  by_cases h0:magF x=0
  · rw [split_zero h0,Option.bind_some,(sval_zero x).2 h0];rfl
  · obtain ⟨ex,odd,hn,hv⟩:=own_ex h0 h
    rw [split_e h h0,Option.bind_some,cano_own h h0]
    have hlo:=ex.lo
    have hhi:=ex.hi
    have hlt:=ex.lt
    have hne:=ex.ne
    generalize oF (magF x)=f at *
    generalize oP (magF x)=p at *
    have hz:sgN (negF x) f≠0:=by have:=sgN_abs (negF x) f;omega
    have hs:decide (sgN (negF x) f<0)=negF x:=by
      unfold sgN
      cases negF x<;>simp;omega
    unfold cano
    rw [if_neg hz,sgN_abs,tzN_odd odd,hs]
    unfold canoO
    have hb:blN (f/2^0)≤53:=blN_le.2 (by rw [Nat.pow_zero,Nat.div_one];exact hlt)
    have hlog:0≤(f.log2:Int):=by omega
    rw [if_neg (by simp at hb ⊢;omega),Nat.pow_zero,Nat.div_one,LW_one hne (by omega)]
    dsimp only
    rw [Bool.not_true,cF,cond_f (by rw [beq_eq_false_iff_ne];omega)]
    simp
end Go.Eng
/-
  Rounding a dyad, on the plain side: what dyad.Round answers. No condition.
-/
set_option maxRecDepth 100000
set_option maxHeartbeats 400000
set_option exponentiation.threshold 70000
namespace Go.Eng
open Go
def rL (n:Nat) (e:Int):Int:=max (e+(blN n:Int)-53) (-1074)
def awayM (m:Int) (neg:Bool) (half:Int) (odd:Bool):Bool:=if m=1 then neg else if m=2 then !neg else if m=3 then false else decide (half>0)||(decide (half=0)&&odd)
def halfC (n c:Nat):Int:=if 2*(n%2^c)<2^c then -1 else if 2*(n%2^c)=2^c then 0 else 1
def cutV (s:Bool) (n c:Nat) (m:Int):Nat:=n/2^c+(if n%2^c≠0∧awayM m s (halfC n c) (n/2^c%2==1)=true then 1 else 0)
def rS (s:Bool) (n:Nat) (e:Int) (m:Int):Nat:=if rL n e≤e then n*2^(e-rL n e).toNat else cutV s n (rL n e-e).toNat m
def hugeV (m:Int) (s:Bool):Nat:=Ieee.double.word s (if m=3∨(m=1∧s=false)∨(m=2∧s=true) then 9218868437227405311 else 9218868437227405312)
def fltV (s:Bool) (size:Nat) (last m:Int):Nat:=if 1024<(blN size:Int)+last then hugeV m s else Ieee.double.nearest s size last
def rF (s:Bool) (n:Nat) (e m:Int):Nat:=if n=0 then 0 else fltV s (rS s n e m) (rL n e) m
theorem cutV_le (s:Bool) {n c k:Nat} (m:Int) (h:blN n≤c+k):cutV s n c m≤2^k:=by
  have h1:n/2^c<2^k:=by
    rw [Nat.div_lt_iff_lt_mul (Nat.two_pow_pos c),← Nat.pow_add,Nat.add_comm]
    exact blN_le.1 h
  unfold cutV
  split<;>omega
theorem rS_le (s:Bool) {n:Nat} (e m:Int) (h0:n≠0):rS s n e m≤9007199254740992:=by
  have e53:(2:Nat)^53=9007199254740992:=by decide
  unfold rS
  by_cases c:rL n e≤e
  · rw [if_pos c]
    have hb:blN (n*2^(e-rL n e).toNat)≤53:=by
      rw [blN_shift _ _ h0]
      unfold rL at *
      omega
    have:=blN_le.1 hb
    omega
  · rw [if_neg c]
    have:=cutV_le s (n:=n) (c:=(rL n e-e).toNat) (k:=53) m (by unfold rL at *;omega)
    omega
theorem rS_zero {s:Bool} {n:Nat} {e m:Int} (h0:n≠0) (h:rS s n e m=0):rL n e = -1074:=by
  unfold rS at h
  by_cases c:rL n e≤e
  · rw [if_pos c] at h
    have:0<n*2^(e-rL n e).toNat:=Nat.mul_pos (by omega) (Nat.two_pow_pos _)
    omega
  · rw [if_neg c] at h
    have hz:n/2^(rL n e-e).toNat=0:=by
      have:n/2^(rL n e-e).toNat≤cutV s n (rL n e-e).toNat m:=Nat.le_add_right _ _
      rw [h] at this
      exact Nat.le_zero.1 this
    have hlt:n<2^(rL n e-e).toNat:=(Nat.div_eq_zero_iff_lt (Nat.two_pow_pos _)).1 hz
    have:=blN_le.2 hlt
    unfold rL at *
    omega
theorem blN_log {f:Nat} (h:f≠0):(blN f:Int)=(f.log2:Int)+1:=by unfold blN;rw [if_neg h];omega
theorem near_zero (s:Bool) (p:Int):Ieee.double.nearest s 0 p=Ieee.double.word s 0:=by unfold Ieee.Format.nearest;exact if_pos rfl
end Go.Eng
/-
  What is a float exactly, on the plain side: it is rounded to itself; a float's dyad by its own odd number. No condition.
-/
set_option maxRecDepth 100000
set_option maxHeartbeats 400000
set_option exponentiation.threshold 70000
namespace Go.Eng
open Go
theorem own_gd {x:Nat} (h:magF x<9218868437227405312) (h0:magF x≠0):Gd (negF x) [(oF (magF x):Int)] (oP (magF x)):=by
  obtain ⟨ex,odd,hn,hv⟩:=own_ex h0 h
  have hlo:=ex.lo
  have hhi:=ex.hi
  have hlt:=ex.lt
  have hne:=ex.ne
  refine .inr ⟨oF (magF x),odd,(LW_one hne (by omega)).symm,by omega,by omega,?_⟩
  have:blN (oF (magF x))≤53:=blN_le.2 hlt
  omega
theorem of_own {x:Nat} (h:magF x<9218868437227405312) (h0:magF x≠0):T_dyad_Of x=some (negF x,[(oF (magF x):Int)],oP (magF x),0):=by
  have:=cano_gd (own_gd h h0)
  rw [of_e h,cano_own h h0,← this]
  have e:zD (negF x) [(oF (magF x):Int)]=sgN (negF x) (oF (magF x)):=by unfold zD;simp [lv]
  rw [e]
end Go.Eng
/-
  The dyad of a finite float, by its number. No condition.
-/
set_option maxRecDepth 100000
set_option maxHeartbeats 400000
set_option exponentiation.threshold 140000
namespace Go.Eng
open Go
theorem of_num {x:Nat} (h:magF x<9218868437227405312):∃ s l f,T_dyad_Of x=some (s,l,f,0)∧Gd s l f∧nD s l f=sval x*((2^64462:Nat):Int):=by
  have ho:=of_e h
  have sh:=cano_shift (sval x) (-1074) 64462
  rw [show (-1074:Int)-((64462:Nat):Int) = -65536 by omega] at sh
  by_cases h0:magF x=0
  · refine ⟨false,[],0,?_,.inl ⟨rfl,rfl,rfl⟩,?_⟩
    · rw [ho,(sval_zero x).2 h0];rfl
    · rw [(sval_zero x).2 h0,Int.zero_mul]
      unfold nD zD sgN lv;simp
  · refine ⟨_,_,_,of_own h h0,own_gd h h0,?_⟩
    have e1:=of_own h h0
    rw [ho,← sh] at e1
    injection e1 with e1
    have:=(cano_num (k:=0) (by rw [show (-65536:Int)-((0:Nat):Int) = -65536 by omega];exact e1)).2
    rw [Nat.pow_zero] at this
    simpa using this
end Go.Eng
