/-
  Dyads on the plain side: tops. No condition.
-/
import Derived.Test.YtlnelldekejadaaGreatDy2
set_option linter.all false
set_option maxRecDepth 100000
set_option maxHeartbeats 400000
set_option exponentiation.threshold 70000
open Option renaming bind_some→AA
namespace Go.Eng
open Go
theorem Gs9 {m:Nat} (h:m≠0):blN m=64*((LW m).length-1)+blN ((LW m).getD ((LW m).length-1) 0).toNat:=by
 induction m using Dv0 with
 | a=>exact absurd rfl h
 | h n a ih=>
   by_cases c:n/18446744073709551616=0
   · have hn:n<18446744073709551616:=by omega
     rw [Bb1 a,c,Am2]
     simp
     congr 1
     omega
   · have ih:=ih c
     have hl:LW (n/18446744073709551616) ≠ []:=fun c'=>c (Ct8.1 c')
     have hlen:=List.length_pos_iff.2 hl
     rw [Bb1 a,List.length_cons]
     have g:((n%18446744073709551616:Nat):Int)::LW (n/18446744073709551616)=((n%18446744073709551616:Nat):Int)::LW (n/18446744073709551616):=rfl
     have b:(((n%18446744073709551616:Nat):Int)::LW (n/18446744073709551616)).getD ((LW (n/18446744073709551616)).length+1-1) 0=(LW (n/18446744073709551616)).getD ((LW (n/18446744073709551616)).length-1) 0:=by
      obtain ⟨k,hk⟩:∃ k,(LW (n/18446744073709551616)).length=k+1:=⟨(LW (n/18446744073709551616)).length-1,by omega⟩
      rw [hk];simp
     rw [b]
     have d:blN n=blN (n/18446744073709551616)+64:=by
      have lo:(n/18446744073709551616).log2+64=n.log2:=by
       have e:=Nat.log2_self_le c
       have f:=@Nat.lt_log2_self (n/18446744073709551616)
       symm
       rw [Nat.log2_eq_iff a]
       constructor
       · rw [Nat.pow_add,show (2:Nat)^64=18446744073709551616 by decide]
         exact Nat.le_trans (Nat.mul_le_mul_right _ e) (Nat.div_mul_le_self _ _)
       · rw [show (n/18446744073709551616).log2+64+1=((n/18446744073709551616).log2+1)+64 by omega,Nat.pow_add,show (2:Nat)^64=18446744073709551616 by decide]
         exact (Nat.div_lt_iff_lt_mul (by omega)).1 f
      unfold blN
      rw [if_neg a,if_neg c];omega
     rw [d,ih];omega
theorem Fz7 {s:Bool} {l:List Int} {e:Int} (h:Gd s l e) (d:zD s l≠0):Au5 s l e=some (e+(blN (lv l):Int)):=by
 have hb:=h.ld
 rcases h with ⟨a,_,_⟩ | ⟨m,a,rfl,f,g,i⟩
 · subst a;exact absurd (by unfold zD sgN lv;cases s<;>rfl) d
 · have hm:m≠0:=by omega
   have hl:LW m ≠ []:=fun c=>hm (Ct8.1 c)
   have hlen:=List.length_pos_iff.2 hl
   have hbl:=Gs9 hm
   have hx:=hb.1 ((LW m).getD ((LW m).length-1) 0) (by rw [List.getD_eq_getElem?_getD,List.getElem?_eq_getElem (by omega)];exact List.getElem_mem _)
   have j:=hb.2.1
   rw [At7]
   unfold Au5
   rw [AA,wrI (n:=((LW m).length:Int)-1) (by omega) (by omega)]
   have ei:(((LW m).length:Nat):Int)-1=(((LW m).length-1:Nat):Int):=by omega
   rw [ei,Ac1 0 (by omega),AA]
   generalize (LW m).getD ((LW m).length-1) 0=x at *
   unfold Ar6
   rw [Ab0 (by simp;omega),AA]
   generalize blN x.toNat=b at *
   rw [wrI (n:=64*(((LW m).length-1:Nat):Int)) (by omega) (by omega),wrI (n:=e+64*(((LW m).length-1:Nat):Int)) (by omega) (by omega),wrI (by omega) (by omega)]
   congr 1;omega
end Go.Eng
