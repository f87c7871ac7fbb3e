
/-
  Dyads on the plain side: tops. No condition.
-/
import Derived.Test.YtlnelldekejadaaDy2
set_option linter.all false
set_option maxRecDepth 100000
set_option maxHeartbeats 400000
set_option exponentiation.threshold 70000
namespace Go.Eng
open Go
theorem blN_LW {m:Nat} (h:m≠0):blN m=64*((LW m).length-1)+blN ((LW m).getD ((LW m).length-1) 0).toNat:=by
  induction m using LW_ind with
  | h0=>exact absurd rfl h
  | h n h0 ih=>
    by_cases c:n/18446744073709551616=0
    · have hn:n<18446744073709551616:=by omega
      rw [LW_pos h0,c,LW_zero]
      simp
      congr 1
      omega
    · have ih:=ih c
      have hl:LW (n/18446744073709551616) ≠ []:=fun c'=>c (LW_nil.1 c')
      have hlen:=List.length_pos_iff.2 hl
      rw [LW_pos h0,List.length_cons]
      have e1:((n%18446744073709551616:Nat):Int)::LW (n/18446744073709551616)=((n%18446744073709551616:Nat):Int)::LW (n/18446744073709551616):=rfl
      have e2:(((n%18446744073709551616:Nat):Int)::LW (n/18446744073709551616)).getD ((LW (n/18446744073709551616)).length+1-1) 0=(LW (n/18446744073709551616)).getD ((LW (n/18446744073709551616)).length-1) 0:=by
        obtain ⟨k,hk⟩:∃ k,(LW (n/18446744073709551616)).length=k+1:=⟨(LW (n/18446744073709551616)).length-1,by omega⟩
        rw [hk];simp
      rw [e2]
      have e3:blN n=blN (n/18446744073709551616)+64:=by
        have lo:(n/18446744073709551616).log2+64=n.log2:=by
          have h1:=Nat.log2_self_le c
          have h2:=@Nat.lt_log2_self (n/18446744073709551616)
          symm
          rw [Nat.log2_eq_iff h0]
          constructor
          · rw [Nat.pow_add,show (2:Nat)^64=18446744073709551616 by decide]
            exact Nat.le_trans (Nat.mul_le_mul_right _ h1) (Nat.div_mul_le_self _ _)
          · rw [show (n/18446744073709551616).log2+64+1=((n/18446744073709551616).log2+1)+64 by omega,Nat.pow_add,show (2:Nat)^64=18446744073709551616 by decide]
            exact (Nat.div_lt_iff_lt_mul (by omega)).1 h2
        unfold blN
        rw [if_neg h0,if_neg c];omega
      rw [e3,ih];omega
theorem top_gd {s:Bool} {l:List Int} {e:Int} (h:Gd s l e) (h0:zD s l≠0):T_dyad_top s l e=some (e+(blN (lv l):Int)):=by
  have hb:=h.ld
  rcases h with ⟨h1,_,_⟩ | ⟨m,h1,rfl,h3,h4,h5⟩
  · subst h1;exact absurd (by unfold zD sgN lv;cases s<;>rfl) h0
  · have hm:m≠0:=by omega
    have hl:LW m ≠ []:=fun c=>hm (LW_nil.1 c)
    have hlen:=List.length_pos_iff.2 hl
    have hbl:=blN_LW hm
    have hx:=hb.1 ((LW m).getD ((LW m).length-1) 0) (by rw [List.getD_eq_getElem?_getD,List.getElem?_eq_getElem (by omega)];exact List.getElem_mem _)
    have h256:=hb.2.1
    rw [lv_LW]
    unfold T_dyad_top
    rw [Option.bind_some,wrI (n:=((LW m).length:Int)-1) (by omega) (by omega)]
    have ei:(((LW m).length:Nat):Int)-1=(((LW m).length-1:Nat):Int):=by omega
    rw [ei,at_getD 0 (by omega),Option.bind_some]
    generalize (LW m).getD ((LW m).length-1) 0=x at *
    unfold T_math_bits_Len64
    rw [cond_t (by simp;omega),Option.bind_some]
    generalize blN x.toNat=b at *
    rw [wrI (n:=64*(((LW m).length-1:Nat):Int)) (by omega) (by omega),wrI (n:=e+64*(((LW m).length-1:Nat):Int)) (by omega) (by omega),wrI (by omega) (by omega)]
    congr 1;omega
end Go.Eng
