
/-
  Dyads on the plain side: signs and the order of numbers. No condition.
-/
import Derived.Test.YtlnelldekejadaaDy2
import Derived.Test.YtlnelldekejadaaDyT
set_option linter.all false
set_option maxRecDepth 100000
set_option maxHeartbeats 400000
set_option exponentiation.threshold 70000
namespace Go.Eng
open Go
def sgZ' (z:Int):Int:=if z<0 then -1 else if z=0 then 0 else 1
def cmpZ (a b:Int):Int:=if a<b then -1 else if a=b then 0 else 1
theorem nD_sgn {s:Bool} {l:List Int} {e:Int}:sgZ' (nD s l e)=sgZ' (zD s l):=by
  have hp:(0:Int)<((2^(e+65536).toNat:Nat):Int):=by have:=Nat.two_pow_pos (e+65536).toNat;omega
  unfold nD sgZ'
  generalize ((2^(e+65536).toNat:Nat):Int)=P at hp
  rcases Int.lt_trichotomy (zD s l) 0 with h | h | h
  · rw [if_pos h,if_pos (Int.mul_neg_of_neg_of_pos h hp)]
  · rw [h,Int.zero_mul]
  · have:=Int.mul_pos h hp
    rw [if_neg (by omega),if_neg (by omega),if_neg (by omega),if_neg (by omega)]
theorem nD_abs {s:Bool} {l:List Int} {e:Int}:(nD s l e).natAbs=lv l*2^(e+65536).toNat:=by
  unfold nD
  rw [Int.natAbs_mul,Int.natAbs_natCast,zD_abs]
theorem blN_lt_of {a b:Nat} (h:blN a<blN b):a<b:=by
  rcases Nat.lt_or_ge a b with g | g
  · exact g
  · exfalso
    have h1:a<2^blN a:=blN_le.1 (Nat.le_refl _)
    have h2:blN b≤blN a:=blN_le.2 (Nat.lt_of_le_of_lt g h1)
    omega
theorem sgZ_cases (z:Int):(z<0∧sgZ' z = -1)∨(z=0∧sgZ' z=0)∨(0<z∧sgZ' z=1):=by
  unfold sgZ'
  rcases Int.lt_trichotomy z 0 with h | h | h
  · exact .inl ⟨h,by rw [if_pos h]⟩
  · exact .inr (.inl ⟨h,by rw [if_neg (by omega),if_pos h]⟩)
  · exact .inr (.inr ⟨h,by rw [if_neg (by omega),if_neg (by omega)]⟩)
theorem cmpZ_mul {a b:Int} {k:Nat}:cmpZ (a*((2^k:Nat):Int)) (b*((2^k:Nat):Int))=cmpZ a b:=by
  have hp:(0:Int)<((2^k:Nat):Int):=by have:=Nat.two_pow_pos k;omega
  unfold cmpZ
  generalize ((2^k:Nat):Int)=P at hp
  rcases Int.lt_trichotomy a b with h | h | h
  · rw [if_pos h,if_pos (Int.mul_lt_mul_of_pos_right h hp)]
  · subst h;rw [if_neg (Int.lt_irrefl _),if_pos rfl,if_neg (Int.lt_irrefl _),if_pos rfl]
  · have:=Int.mul_lt_mul_of_pos_right h hp
    rw [if_neg (by omega),if_neg (by omega),if_neg (by omega),if_neg (by omega)]
end Go.Eng
/-
  Dyads on the plain side: signs. No condition.
-/
set_option maxRecDepth 100000
set_option maxHeartbeats 400000
set_option exponentiation.threshold 70000
namespace Go.Eng
open Go
theorem sign_gd {s:Bool} {l:List Int} {e:Int} (h:Gd s l e):T_dyad_Sign s l e=some (sgZ' (nD s l e),0):=by
  unfold T_dyad_Sign
  rw [right_of h,Option.bind_some,Bool.not_true,cF,Option.bind_some,nD_sgn]
  by_cases h0:zD s l=0
  · have:=h.z_zero.1 h0
    subst this
    rw [h0];rfl
  · have hl:l ≠ []:=fun c=>h0 (h.z_zero.2 c)
    have:=List.length_pos_iff.2 hl
    rw [cond_f (by simp;exact hl)]
    have hz:lv l≠0:=fun c=>h0 (by unfold zD sgN;rw [c];cases s<;>rfl)
    unfold zD sgN sgZ'
    cases s with
    | true=>rw [cT,if_pos rfl,if_pos (by omega)]
    | false=>
      have p1 : ¬ ((lv l:Nat):Int)<0:=by omega
      have p2 : ¬ ((lv l:Nat):Int)=0:=by omega
      simp [p1,p2,hz]
end Go.Eng
/-
  Dyads on the plain side: dyad.Cmp is the order of the numbers. No condition.
-/
set_option maxRecDepth 100000
set_option maxHeartbeats 400000
set_option exponentiation.threshold 70000
namespace Go.Eng
open Go
theorem nD_zero {s:Bool} {l:List Int} {e:Int}:nD s l e=0↔zD s l=0:=by
  have h:=nD_sgn (s:=s) (l:=l) (e:=e)
  rcases sgZ_cases (nD s l e) with ⟨a,b⟩ | ⟨a,b⟩ | ⟨a,b⟩<;>rcases sgZ_cases (zD s l) with ⟨c,d⟩ | ⟨c,d⟩ | ⟨c,d⟩<;>omega
theorem cmp_gd {s t:Bool} {l m:List Int} {e f:Int} (h:Gd s l e) (k:Gd t m f):T_dyad_Cmp s l e t m f=some (cmpZ (nD s l e) (nD t m f),0):=by
  have b1:=h.ld
  have b2:=k.ld
  have a1:=zD_abs s l
  have a2:=zD_abs t m
  have z1:(zD s l).natAbs<2^16384:=by rw [a1];exact b1.2.2.2.2
  have z2:(zD t m).natAbs<2^16384:=by rw [a2];exact b2.2.2.2.2
  have n1:=nD_abs (s:=s) (l:=l) (e:=e)
  have n2:=nD_abs (s:=t) (l:=m) (e:=f)
  have q1:=nD_zero (s:=s) (l:=l) (e:=e)
  have q2:=nD_zero (s:=t) (l:=m) (e:=f)
  have v1:nD s l e=zD s l*((2^(e+65536).toNat:Nat):Int):=rfl
  have v2:nD t m f=zD t m*((2^(f+65536).toNat:Nat):Int):=rfl
  unfold T_dyad_Cmp
  rw [sign_gd h,Option.bind_some]
  dsimp only
  rw [sign_gd k,Option.bind_some]
  dsimp only
  rw [show (cond (!((0:Int) != 0)) (some ((0:Int) != 0)) (some true))=some false from rfl,Option.bind_some,cF]
  generalize hX:nD s l e=X at *
  generalize hY:nD t m f=Y at *
  refine eq_cond (fun hc=>?_) (fun hc=>?_)
  · have hne:sgZ' X≠sgZ' Y:=by simpa using hc
    refine eq_cond (fun hc2=>?_) (fun hc2=>?_)
    · have h2:sgZ' X<sgZ' Y:=by simpa using hc2
      have:X<Y:=by rcases sgZ_cases X with ⟨a,b⟩ | ⟨a,b⟩ | ⟨a,b⟩<;>rcases sgZ_cases Y with ⟨c,d⟩ | ⟨c,d⟩ | ⟨c,d⟩<;>omega
      unfold cmpZ
      rw [if_pos this]
    · have h2 : ¬ sgZ' X<sgZ' Y:=by simpa using hc2
      have:Y<X:=by rcases sgZ_cases X with ⟨a,b⟩ | ⟨a,b⟩ | ⟨a,b⟩<;>rcases sgZ_cases Y with ⟨c,d⟩ | ⟨c,d⟩ | ⟨c,d⟩<;>omega
      unfold cmpZ
      rw [if_neg (by omega),if_neg (by omega)]
  · have hse:sgZ' X=sgZ' Y:=by simpa using hc
    refine eq_cond (fun hc2=>?_) (fun hc2=>?_)
    · have h2:sgZ' X=0:=by simpa using hc2
      have:X=Y:=by rcases sgZ_cases X with ⟨a,b⟩ | ⟨a,b⟩ | ⟨a,b⟩<;>rcases sgZ_cases Y with ⟨c,d⟩ | ⟨c,d⟩ | ⟨c,d⟩<;>omega
      unfold cmpZ
      rw [if_neg (by omega),if_pos this]
    · have h2:sgZ' X≠0:=by simpa using hc2
      have x0:X≠0:=fun c=>h2 (by rw [c];rfl)
      have y0:Y≠0:=fun c=>h2 (by rw [hse,c];rfl)
      have t1:=top_gd h (fun c=>x0 (q1.2 c))
      have t2:=top_gd k (fun c=>y0 (q2.2 c))
      have l1:lv l≠0:=fun c=>x0 (by rw [c,Nat.zero_mul] at n1;omega)
      have l2:lv m≠0:=fun c=>y0 (by rw [c,Nat.zero_mul] at n2;omega)
      have bX:blN X.natAbs=blN (lv l)+(e+65536).toNat:=by rw [n1];exact blN_shift _ _ l1
      have bY:blN Y.natAbs=blN (lv m)+(f+65536).toNat:=by rw [n2];exact blN_shift _ _ l2
      rw [t1,Option.bind_some,t2,Option.bind_some]
      refine eq_cond (fun hc3=>?_) (fun hc3=>?_)
      · have hne:e+(blN (lv l):Int)≠f+(blN (lv m):Int):=by simpa using hc3
        rw [Option.bind_some,Option.bind_some]
        refine eq_cond (fun hc4=>?_) (fun hc4=>?_)
        · have lt:e+(blN (lv l):Int)<f+(blN (lv m):Int):=by simpa using hc4
          have:=blN_lt_of (a:=X.natAbs) (b:=Y.natAbs) (by omega)
          unfold cmpZ
          rcases sgZ_cases X with ⟨a,b⟩ | ⟨a,b⟩ | ⟨a,b⟩
          · have:Y<0:=by rcases sgZ_cases Y with ⟨c,d⟩ | ⟨c,d⟩ | ⟨c,d⟩<;>omega
            rw [b,if_neg (by omega),if_neg (by omega)];rfl
          · exact absurd a x0
          · have:0<Y:=by rcases sgZ_cases Y with ⟨c,d⟩ | ⟨c,d⟩ | ⟨c,d⟩<;>omega
            rw [b,if_pos (by omega)];rfl
        · have lt : ¬ e+(blN (lv l):Int)<f+(blN (lv m):Int):=by simpa using hc4
          have:=blN_lt_of (a:=Y.natAbs) (b:=X.natAbs) (by omega)
          unfold cmpZ
          rcases sgZ_cases X with ⟨a,b⟩ | ⟨a,b⟩ | ⟨a,b⟩
          · have:Y<0:=by rcases sgZ_cases Y with ⟨c,d⟩ | ⟨c,d⟩ | ⟨c,d⟩<;>omega
            rw [b,if_pos (by omega)]
          · exact absurd a x0
          · have:0<Y:=by rcases sgZ_cases Y with ⟨c,d⟩ | ⟨c,d⟩ | ⟨c,d⟩<;>omega
            rw [b,if_neg (by omega),if_neg (by omega)]
      · rw [whole_gd h,Option.bind_some,whole_gd k,Option.bind_some]
        have core:∀ {a b:Int},a.natAbs<2^16384→b.natAbs<2^16384→∀ d:Nat,d≤131072→bigLsh a (d:Int)=some (a*((2^d:Nat):Int))∧(a*((2^d:Nat):Int)).natAbs<2^(16384+d):=fun {a b} ha hb d hd=>by
          have hlt:=pow_lt_abs (z:=a) (j:=d) rfl ha
          refine ⟨?_,hlt⟩
          unfold bigLsh
          rw [if_pos ⟨by omega,by omega⟩,bgOk_b ha (by omega),Option.bind_some,Int.toNat_natCast,bgOk_b hlt (by omega)]
        have cmp:∀ {a b:Int} {i j:Nat},a.natAbs<2^i→b.natAbs<2^j→i≤200000→j≤200000→bigCmp a b=some (cmpZ a b):=fun {a b i j} ha hb hi hj=>by
          unfold bigCmp
          rw [bgOk_b ha (by omega),bgOk_b hb (by omega)];rfl
        by_cases c:e>f
        · obtain ⟨d,hd⟩:∃ d:Nat,e-f=d:=⟨(e-f).toNat,by omega⟩
          obtain ⟨s1,s2⟩:=core z1 z2 d (by omega)
          rw [cond_t (by simpa using c),hd,wrN (by omega),w64n (by omega),s1,Option.bind_some,Option.bind_some]
          dsimp only
          rw [cmp s2 z2 (by omega) (by omega),Option.bind_some,v1,v2]
          have:(e+65536).toNat=d+(f+65536).toNat:=by omega
          rw [this,Nat.pow_add,Int.natCast_mul,← Int.mul_assoc,cmpZ_mul]
        · obtain ⟨d,hd⟩:∃ d:Nat,f-e=d:=⟨(f-e).toNat,by omega⟩
          obtain ⟨s1,s2⟩:=core z2 z1 d (by omega)
          rw [cond_f (by simpa using c),hd,wrN (by omega),w64n (by omega),s1,Option.bind_some,Option.bind_some]
          dsimp only
          rw [cmp z1 s2 (by omega) (by omega),Option.bind_some,v1,v2]
          have:(f+65536).toNat=d+(e+65536).toNat:=by omega
          rw [this,Nat.pow_add,Int.natCast_mul,← Int.mul_assoc,cmpZ_mul]
end Go.Eng
