
/-
  Dyads that stand for whole numbers of units, with signs: sums, products, sizes, powers of two, the order. No condition.
-/
import Derived.Test.YtgbilchfljlbeaaDoorRv
import Derived.Test.YtgbilchfljlbeaaDoorOf
import Derived.Test.YtgbilchfljlbeaaDoorDy5
import Derived.Test.YtgbilchfljlbeaaDoorDyP
set_option linter.all false
set_option maxRecDepth 100000
set_option maxHeartbeats 400000
set_option exponentiation.threshold 140000
namespace Go.Eng
open Go
def Dz (s:Bool) (l:List Int) (f:Int) (k:Nat) (z:Int):Prop:=Gd s l f∧nD s l f=z*((2^k:Nat):Int)
theorem cano_dz {z:Int} {k:Nat} {e:Int} (hz:z.natAbs<2^16384) (hk:e+65536=k) (h1:25536≤k) (h2:k≤105536):∃ s l f,cano z e=(s,l,f,0)∧Dz s l f k z:=by
  obtain ⟨s,l,f,c1,c2,c3⟩:=cano_small (z:=z) (e:=e) (blN_le.2 hz) (by omega) (by omega)
  exact ⟨s,l,f,c1,c2,by rw [c3,hk,Int.toNat_natCast]⟩
theorem of_dz {x:Nat} (h:magF x<9218868437227405312):∃ s l f,T_dyad_Of x=some (s,l,f,0)∧Dz s l f 64462 (sval x):=of_num h
theorem dz_up {s:Bool} {l:List Int} {f:Int} {k j:Nat} {z:Int} (h:Dz s l f (k+j) z):Dz s l f k (z*((2^j:Nat):Int)):=by
  refine ⟨h.1,?_⟩
  rw [h.2,Nat.pow_add,Int.natCast_mul,Int.mul_assoc,Int.mul_comm ((2^k:Nat):Int)]
theorem add_dz {s t:Bool} {l m:List Int} {e f:Int} {k:Nat} {y z:Int} (h:Dz s l e k y) (q:Dz t m f k z) (h1:25536≤k) (h2:k≤105536) (hb:(y+z).natAbs<2^16384):∃ u n g,T_dyad_Add s l e t m f=some (u,n,g,0)∧Dz u n g k (y+z):=by
  obtain ⟨u,n,g,m1,m2⟩:=cano_dz (e:=(k:Int)-65536) hb (by omega) h1 h2
  refine ⟨u,n,g,?_,m2⟩
  rw [dadd_t h.1 q.1,h.2,q.2,← Int.add_mul,← m1,← cano_shift (y+z) ((k:Int)-65536) k,show (k:Int)-65536-(k:Int) = -65536 by omega]
theorem mul_dz {s t:Bool} {l m:List Int} {e f:Int} {k j i:Nat} {y z:Int} (h:Dz s l e k y) (q:Dz t m f j z) (hk:i+65536=k+j) (h1:25536≤i) (h2:i≤105536) (hb:(y*z).natAbs<2^16384):∃ u n g,T_dyad_Mul s l e t m f=some (u,n,g,0)∧Dz u n g i (y*z):=by
  obtain ⟨u,n,g,m1,m2⟩:=cano_dz (e:=(i:Int)-65536) hb (by omega) h1 h2
  refine ⟨u,n,g,?_,m2⟩
  have e1:y*((2^k:Nat):Int)*(z*((2^j:Nat):Int))=y*z*((2^(k+j):Nat):Int):=by
    rw [Nat.pow_add,Int.natCast_mul]
    generalize ((2^k:Nat):Int)=a
    generalize ((2^j:Nat):Int)=b
    rw [Int.mul_assoc,Int.mul_assoc,← Int.mul_assoc a,Int.mul_comm a,Int.mul_assoc]
  rw [dmul_t h.1 q.1,h.2,q.2,e1,← m1,← cano_shift (y*z) ((i:Int)-65536) (k+j),show (i:Int)-65536-((k+j:Nat):Int) = -131072 by omega]
theorem pos_pow (k:Nat):0<((2^k:Nat):Int):=by have:=Nat.two_pow_pos k;omega
theorem neg_dz {s:Bool} {l:List Int} {e:Int} {k:Nat} {z:Int} (h:Dz s l e k z):∃ s',T_dyad_Neg s l e=some (s',l,e,0)∧Dz s' l e k (-z):=by
  obtain ⟨s',a,b,c⟩:=neg_gd h.1
  exact ⟨s',a,b,by rw [c,h.2,Int.neg_mul]⟩
theorem neg_iff {z:Int} {k:Nat}:sgZ' (z*((2^k:Nat):Int))<0↔z<0:=by
  have hp:=pos_pow k
  generalize ((2^k:Nat):Int)=p at *
  have h1:z<0→z*p<0:=fun h=>Int.mul_neg_of_neg_of_pos h hp
  have h2 : ¬ z<0→0≤z*p:=fun h=>Int.mul_nonneg (by omega) (by omega)
  rcases sgZ_cases (z*p) with ⟨a,b⟩ | ⟨a,b⟩ | ⟨a,b⟩<;>rw [b]<;>by_cases c:z<0
  · simp [c]
  · have:=h2 c;omega
  · have:=h1 c;omega
  · simp [c]
  · have:=h1 c;omega
  · simp [c]
theorem scale_dz {s:Bool} {l:List Int} {e:Int} {k j:Nat} {z q:Int} (h:Dz s l e k z) (hz:z.natAbs<2^16384) (hq:(k:Int)+q=j) (q1 : -20000≤q) (q2:q≤20000) (h1:25536≤j) (h2:j≤105536) :
    ∃ t m f,T_dyad_Scale s l e q=some (t,m,f,0)∧Dz t m f j z:=by
  obtain ⟨t,m,f,c1,c2⟩:=cano_dz (e:=(j:Int)-65536) hz (by omega) h1 h2
  refine ⟨t,m,f,?_,c2⟩
  have hd:=h.1.ld
  have hval:cano (zD s l) (e+q)=cano z ((j:Int)-65536):=by
    have a1:=cano_shift (zD s l) (e+q) (e+65536).toNat
    have a2:=cano_shift z ((j:Int)-65536) k
    have hv:=h.2
    unfold nD at hv
    have he : -65536≤e∨l = []:=by
      rcases h.1 with ⟨c,_,_⟩ | ⟨_,_,_,c,_,_⟩
      · exact .inr c
      · exact .inl c
    have he2 : -65536≤e:=by
      rcases h.1 with ⟨_,_,c⟩ | ⟨_,_,_,c,_,_⟩<;>omega
    rw [hv,show e+q-((e+65536).toNat:Int)=(j:Int)-65536-(k:Int) by omega] at a1
    rw [← a1,a2]
  unfold T_dyad_Scale
  rw [right_of h.1]
  simp only [Option.bind_some,Bool.not_true,cF]
  by_cases c:l = []
  · have z0:zD s l=0:=(h.1.z_zero).2 c
    have hn:cano (zD s l) (e+q)=nilD:=by rw [z0];rfl
    rw [← c1,← hval,hn,c];rfl
  · have hlen:(((l.length:Nat):Int)==0)=false:=by
      have:l.length≠0:=fun h=>c (List.eq_nil_of_length_eq_zero h)
      rw [beq_eq_false_iff_ne];omega
    have he : -65536≤e∧e≤65536:=by
      rcases h.1 with ⟨_,_,c⟩ | ⟨_,_,_,c,d,_⟩<;>omega
    rw [hlen,cF,decide_eq_false (show ¬ q>131072 by omega),Bool.not_false,cT,decide_eq_false (show ¬ q < -131072 by omega),Option.bind_some,cF,whole_gd h.1,Option.bind_some,wrI (n:=e+q) (by omega) (by omega),made_t (k:=16384) (by rw [zD_abs];exact hd.2.2.2.2) (by omega),hval,c1];rfl
theorem int_dz {n:Int} (h1 : -9223372036854775808≤n) (h2:n<9223372036854775808):∃ s l f,T_dyad_Int n=some (s,l,f)∧Dz s l f 65536 n:=by
  have hb:n.natAbs<2^64:=by
    have:(2:Nat)^64=18446744073709551616:=by decide
    omega
  obtain ⟨s,l,f,c1,c2⟩:=cano_dz (z:=n) (e:=0) (k:=65536) (Nat.lt_of_lt_of_le hb (Nat.pow_le_pow_right (by decide) (by omega))) (by omega) (by omega) (by omega)
  refine ⟨s,l,f,?_,c2⟩
  have e:T_bn_NewInt n=some n:=by
    unfold T_bn_NewInt bigSetInt64
    rw [if_pos ⟨h1,h2⟩];rfl
  unfold T_dyad_Int
  rw [e,Option.bind_some,made_t (k:=64) hb (by omega),c1];rfl
theorem cmp_dz {s t:Bool} {l m:List Int} {e f:Int} {k:Nat} {y z:Int} (h:Dz s l e k y) (q:Dz t m f k z) (hle:y≤z):∃ c,T_dyad_Cmp s l e t m f=some (c,0)∧c≤0:=by
  refine ⟨_,cmp_gd h.1 q.1,?_⟩
  rw [h.2,q.2]
  have hp:=pos_pow k
  generalize ((2^k:Nat):Int)=p at *
  have:y*p≤z*p:=Int.mul_le_mul_of_nonneg_right hle (by omega)
  unfold cmpZ
  split
  · decide
  · split
    · decide
    · omega
end Go.Eng
