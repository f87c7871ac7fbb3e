/-
  Dyads that stand for whole numbers of units, with signs: powers of two, signs turned (cut out of Rv and Dzl for laws that reach no floats). No condition.
-/
import Derived.Test.YtlnelldekejadaaDy5
import Derived.Test.YtlnelldekejadaaDyP
set_option linter.all false
set_option maxRecDepth 100000
set_option maxHeartbeats 400000
set_option exponentiation.threshold 140000
namespace Go.Eng
open Go
theorem tz_spec {n:Nat} (h:n≠0):n=n/2^tzN n*2^tzN n∧n/2^tzN n%2=1:=by
  induction n using Nat.strongRecOn with
  | ind n ih=>
    rw [tzN_eq,if_neg h]
    by_cases h1:n%2=1
    · rw [if_pos h1];exact ⟨by simp,by simpa using h1⟩
    · rw [if_neg h1]
      obtain ⟨k1,k2⟩:=ih (n/2) (by omega) (by omega)
      have e:n/2^(tzN (n/2)+1)=n/2/2^tzN (n/2):=by rw [Nat.pow_succ,Nat.mul_comm,← Nat.div_div_eq_div_mul]
      rw [e]
      refine ⟨?_,k2⟩
      rw [Nat.pow_succ,← Nat.mul_assoc,← k1];omega
theorem cano_small {z e:Int} (hz:blN z.natAbs≤16384) (h1 : -40000≤e) (h2:e≤40000):∃ s l f,cano z e=(s,l,f,0)∧Gd s l f∧nD s l f=z*((2^(e+65536).toNat:Nat):Int):=by
  have sh:=cano_shift z e (e+65536).toNat
  have e1:e-(((e+65536).toNat:Nat):Int) = -65536:=by omega
  rw [e1] at sh
  rcases cano_out z e with h | ⟨s,l,f,h,hg,_⟩
  · exfalso
    unfold cano at h
    by_cases h0:z=0
    · rw [if_pos h0] at h
      have h4:(0:Int)=3:=congrArg (fun x:DyR=>x.2.2.2) h
      omega
    · rw [if_neg h0] at h
      unfold canoO at h
      have hn:z.natAbs≠0:=by omega
      have ht:=tzN_lt hn
      obtain ⟨k1,k2⟩:=tz_spec hn
      have hm:z.natAbs/2^tzN z.natAbs≠0:=by omega
      have hb:blN z.natAbs=blN (z.natAbs/2^tzN z.natAbs)+tzN z.natAbs:=by
        conv=>lhs;rw [k1]
        exact blN_shift _ _ hm
      rw [if_neg (by omega)] at h
      have h4:(0:Int)=3:=congrArg (fun x:DyR=>x.2.2.2) h
      omega
  · refine ⟨s,l,f,h,hg,?_⟩
    rw [h] at sh
    have:=(cano_num (k:=0) (by rw [show (-65536:Int)-((0:Nat):Int) = -65536 by omega];exact sh)).2
    rw [Nat.pow_zero] at this
    simpa using this
def Dz (s:Bool) (l:List Int) (f:Int) (k:Nat) (z:Int):Prop:=Gd s l f∧nD s l f=z*((2^k:Nat):Int)
theorem cano_dz {z:Int} {k:Nat} {e:Int} (hz:z.natAbs<2^16384) (hk:e+65536=k) (h1:25536≤k) (h2:k≤105536):∃ s l f,cano z e=(s,l,f,0)∧Dz s l f k z:=by
  obtain ⟨s,l,f,c1,c2,c3⟩:=cano_small (z:=z) (e:=e) (blN_le.2 hz) (by omega) (by omega)
  exact ⟨s,l,f,c1,c2,by rw [c3,hk,Int.toNat_natCast]⟩
theorem neg_dz {s:Bool} {l:List Int} {e:Int} {k:Nat} {z:Int} (h:Dz s l e k z):∃ s',T_dyad_Neg s l e=some (s',l,e,0)∧Dz s' l e k (-z):=by
  obtain ⟨s',a,b,c⟩:=neg_gd h.1
  exact ⟨s',a,b,by rw [c,h.2,Int.neg_mul]⟩
theorem scale_dz {s:Bool} {l:List Int} {e:Int} {k j:Nat} {z q:Int} (h:Dz s l e k z) (hz:z.natAbs<2^16384) (hq:(k:Int)+q=j) (q1 : -20000≤q) (q2:q≤20000) (h1:25536≤j) (h2:j≤105536) :
    ∃ t m f,T_dyad_Scale s l e q=some (t,m,f,0)∧Dz t m f j z:=by
  obtain ⟨t,m,f,c1,c2⟩:=cano_dz (e:=(j:Int)-65536) hz (by omega) h1 h2
  refine ⟨t,m,f,?_,c2⟩
  have hd:=h.1.ld
  have hval:cano (zD s l) (e+q)=cano z ((j:Int)-65536):=by
    have a1:=cano_shift (zD s l) (e+q) (e+65536).toNat
    have a2:=cano_shift z ((j:Int)-65536) k
    have hv:=h.2
    unfold nD at hv
    have he : -65536≤e∨l = []:=by
      rcases h.1 with ⟨c,_,_⟩ | ⟨_,_,_,c,_,_⟩
      · exact .inr c
      · exact .inl c
    have he2 : -65536≤e:=by
      rcases h.1 with ⟨_,_,c⟩ | ⟨_,_,_,c,_,_⟩<;>omega
    rw [hv,show e+q-((e+65536).toNat:Int)=(j:Int)-65536-(k:Int) by omega] at a1
    rw [← a1,a2]
  unfold T_dyad_Scale
  rw [right_of h.1]
  simp only [Option.bind_some,Bool.not_true,cF]
  by_cases c:l = []
  · have z0:zD s l=0:=(h.1.z_zero).2 c
    have hn:cano (zD s l) (e+q)=nilD:=by rw [z0];rfl
    rw [← c1,← hval,hn,c];rfl
  · have hlen:(((l.length:Nat):Int)==0)=false:=by
      have:l.length≠0:=fun h=>c (List.eq_nil_of_length_eq_zero h)
      rw [beq_eq_false_iff_ne];omega
    have he : -65536≤e∧e≤65536:=by
      rcases h.1 with ⟨_,_,c⟩ | ⟨_,_,_,c,d,_⟩<;>omega
    rw [hlen,cF,decide_eq_false (show ¬ q>131072 by omega),Bool.not_false,cT,decide_eq_false (show ¬ q < -131072 by omega),Option.bind_some,cF,whole_gd h.1,Option.bind_some,wrI (n:=e+q) (by omega) (by omega),made_t (k:=16384) (by rw [zD_abs];exact hd.2.2.2.2) (by omega),hval,c1];rfl
theorem int_dz {n:Int} (h1 : -9223372036854775808≤n) (h2:n<9223372036854775808):∃ s l f,T_dyad_Int n=some (s,l,f)∧Dz s l f 65536 n:=by
  have hb:n.natAbs<2^64:=by
    have:(2:Nat)^64=18446744073709551616:=by decide
    omega
  obtain ⟨s,l,f,c1,c2⟩:=cano_dz (z:=n) (e:=0) (k:=65536) (Nat.lt_of_lt_of_le hb (Nat.pow_le_pow_right (by decide) (by omega))) (by omega) (by omega) (by omega)
  refine ⟨s,l,f,?_,c2⟩
  have e:T_bn_NewInt n=some n:=by
    unfold T_bn_NewInt bigSetInt64
    rw [if_pos ⟨h1,h2⟩];rfl
  unfold T_dyad_Int
  rw [e,Option.bind_some,made_t (k:=64) hb (by omega),c1];rfl
theorem pick_t (x:Int) {n:Nat} (hn:0<n) (h:n<1000000):∃ k:Nat,k<n∧T_k_Pick x (n:Int)=some (k:Int):=by
  unfold T_k_Pick
  rw [cond_f (by simp;omega)]
  have hz:nz (n:Int)=some ():=by unfold nz;simp;omega
  have h1:(x.tmod (n:Int)).natAbs<n:=by
    rw [Int.natAbs_tmod]
    exact Nat.mod_lt _ (by simpa using hn)
  rw [hz,Option.bind_some]
  generalize x.tmod (n:Int)=r at h1
  by_cases hr:r<0
  · refine ⟨(r+n).toNat,by omega,?_⟩
    rw [cond_t (by simpa using hr),Option.bind_some,wrI (by omega) (by omega)]
    congr 1;omega
  · refine ⟨r.toNat,by omega,?_⟩
    rw [cond_f (by simpa using hr),Option.bind_some]
    congr 1;omega
end Go.Eng
