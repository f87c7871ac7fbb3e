/-
  Dyads on the plain side: signs and the order of numbers. No condition.
-/
import Derived.Test.YtlnelldekejadaaGreatDy2
import Derived.Test.YtlnelldekejadaaGreatDyT
set_option linter.all false
set_option maxRecDepth 100000
set_option maxHeartbeats 400000
set_option exponentiation.threshold 70000
open Option renaming bind_some→AA
open Int renaming mul_lt_mul_of_pos_right→AB,lt_trichotomy→AC
namespace Go.Eng
open Go
def sgZ' (z:Int):Int:=if z<0 then -1 else if z=0 then 0 else 1
def Dd5 (a b:Int):Int:=if a<b then -1 else if a=b then 0 else 1
theorem Gg3 (a b:Int):Dd5 a b=sgZ' (a-b):=by
 unfold Dd5 sgZ'
 by_cases h:a<b
 · rw [if_pos h,if_pos (by omega)]
 · by_cases c:a=b
   · rw [if_neg h,if_pos c,if_neg (by omega),if_pos (by omega)]
   · rw [if_neg h,if_neg c,if_neg (by omega),if_neg (by omega)]
theorem Fg3 {s:Bool} {l:List Int} {e:Int}:sgZ' (nD s l e)=sgZ' (zD s l):=by
 have hp:(0:Int)<((2^(e+65536).toNat:Nat):Int):=by have:=Nat.two_pow_pos (e+65536).toNat;omega
 unfold nD sgZ'
 generalize ((2^(e+65536).toNat:Nat):Int)=P at hp
 rcases AC (zD s l) 0 with h | h | h
 · rw [if_pos h,if_pos (Int.mul_neg_of_neg_of_pos h hp)]
 · rw [h,Int.zero_mul]
 · have:=Int.mul_pos h hp
   rw [if_neg (by omega),if_neg (by omega),if_neg (by omega),if_neg (by omega)]
theorem Gb1 {s:Bool} {l:List Int} {e:Int}:(nD s l e).natAbs=lv l*2^(e+65536).toNat:=by
 unfold nD
 rw [Int.natAbs_mul,Int.natAbs_natCast,Cy1]
theorem By6 {a b:Nat} (h:blN a<blN b):a<b:=by
 rcases Nat.lt_or_ge a b with g | g
 · exact g
 · exfalso
   have c:a<2^blN a:=Ap3.1 (Nat.le_refl _)
   have d:blN b≤blN a:=Ap3.2 (Nat.lt_of_le_of_lt g c)
   omega
theorem Ae7 (z:Int):(z<0∧sgZ' z = -1)∨(z=0∧sgZ' z=0)∨(0<z∧sgZ' z=1):=by
 unfold sgZ'
 rcases AC z 0 with h | h | h
 · exact .inl ⟨h,by rw [if_pos h]⟩
 · exact .inr (.inl ⟨h,by rw [if_neg (by omega),if_pos h]⟩)
 · exact .inr (.inr ⟨h,by rw [if_neg (by omega),if_neg (by omega)]⟩)
theorem El4 {a b:Int} {k:Nat}:Dd5 (a*((2^k:Nat):Int)) (b*((2^k:Nat):Int))=Dd5 a b:=by
 have hp:(0:Int)<((2^k:Nat):Int):=by have:=Nat.two_pow_pos k;omega
 unfold Dd5
 generalize ((2^k:Nat):Int)=P at hp
 rcases AC a b with h | h | h
 · rw [if_pos h,if_pos (AB h hp)]
 · subst h;rw [if_neg (Int.lt_irrefl _),if_pos rfl,if_neg (Int.lt_irrefl _),if_pos rfl]
 · have:=AB h hp
   rw [if_neg (by omega),if_neg (by omega),if_neg (by omega),if_neg (by omega)]
end Go.Eng
/-
  Dyads on the plain side: signs. No condition.
-/
namespace Go.Eng
open Go
theorem Ez6 {s:Bool} {l:List Int} {e:Int} (h:Gd s l e):Ay2 s l e=some (sgZ' (nD s l e),0):=by
 unfold Ay2
 rw [Dm7 h,AA,Bool.not_true,cF,AA,Fg3]
 by_cases a:zD s l=0
 · have:=h.z_zero.1 a
   subst this
   rw [a];rfl
 · have hl:l ≠ []:=fun c=>a (h.z_zero.2 c)
   have:=List.length_pos_iff.2 hl
   rw [Ab1 (by simp;exact hl)]
   have hz:lv l≠0:=fun c=>a (by unfold zD sgN;rw [c];cases s<;>rfl)
   unfold zD sgN sgZ'
   cases s with
   | true=>rw [cT,if_pos rfl,if_pos (by omega)]
   | false=>
     have b : ¬ ((lv l:Nat):Int)<0:=by omega
     have d : ¬ ((lv l:Nat):Int)=0:=by omega
     simp [b,d,hz]
end Go.Eng
/-
  Dyads on the plain side: dyad.Cmp is the order of the numbers. No condition.
-/
namespace Go.Eng
open Go
theorem Fd3 {s:Bool} {l:List Int} {e:Int}:nD s l e=0↔zD s l=0:=by
 have h:=Fg3 (s:=s) (l:=l) (e:=e)
 rcases Ae7 (nD s l e) with ⟨a,b⟩ | ⟨a,b⟩ | ⟨a,b⟩<;>rcases Ae7 (zD s l) with ⟨c,d⟩ | ⟨c,d⟩ | ⟨c,d⟩<;>omega
theorem Gn8 {s t:Bool} {l m:List Int} {e f:Int} (h:Gd s l e) (k:Gd t m f):Bi6 s l e t m f=some (Dd5 (nD s l e) (nD t m f),0):=by
 have b1:=h.ld
 have b2:=k.ld
 have a1:=Cy1 s l
 have a2:=Cy1 t m
 have p:(zD s l).natAbs<2^16384:=by rw [a1];exact b1.2.2.2.2
 have q:(zD t m).natAbs<2^16384:=by rw [a2];exact b2.2.2.2.2
 have x:=Gb1 (s:=s) (l:=l) (e:=e)
 have y:=Gb1 (s:=t) (l:=m) (e:=f)
 have q1:=Fd3 (s:=s) (l:=l) (e:=e)
 have q2:=Fd3 (s:=t) (l:=m) (e:=f)
 have v1:nD s l e=zD s l*((2^(e+65536).toNat:Nat):Int):=rfl
 have v2:nD t m f=zD t m*((2^(f+65536).toNat:Nat):Int):=rfl
 unfold Bi6
 rw [Ez6 h,AA]
 dsimp only
 rw [Ez6 k,AA]
 dsimp only
 rw [show (cond (!((0:Int) != 0)) (some ((0:Int) != 0)) (some true))=some false from rfl,AA,cF]
 generalize hX:nD s l e=X at *
 generalize hY:nD t m f=Y at *
 refine Ba5 (fun hc=>?_) (fun hc=>?_)
 · have hne:sgZ' X≠sgZ' Y:=by simpa using hc
   refine Ba5 (fun g=>?_) (fun g=>?_)
   · have n:sgZ' X<sgZ' Y:=by simpa using g
     have:X<Y:=by rcases Ae7 X with ⟨a,b⟩ | ⟨a,b⟩ | ⟨a,b⟩<;>rcases Ae7 Y with ⟨c,d⟩ | ⟨c,d⟩ | ⟨c,d⟩<;>omega
     unfold Dd5
     rw [if_pos this]
   · have n : ¬ sgZ' X<sgZ' Y:=by simpa using g
     have:Y<X:=by rcases Ae7 X with ⟨a,b⟩ | ⟨a,b⟩ | ⟨a,b⟩<;>rcases Ae7 Y with ⟨c,d⟩ | ⟨c,d⟩ | ⟨c,d⟩<;>omega
     unfold Dd5
     rw [if_neg (by omega),if_neg (by omega)]
 · have hse:sgZ' X=sgZ' Y:=by simpa using hc
   refine Ba5 (fun g=>?_) (fun g=>?_)
   · have n:sgZ' X=0:=by simpa using g
     have:X=Y:=by rcases Ae7 X with ⟨a,b⟩ | ⟨a,b⟩ | ⟨a,b⟩<;>rcases Ae7 Y with ⟨c,d⟩ | ⟨c,d⟩ | ⟨c,d⟩<;>omega
     unfold Dd5
     rw [if_neg (by omega),if_pos this]
   · have n:sgZ' X≠0:=by simpa using g
     have o:X≠0:=fun c=>n (by rw [c];rfl)
     have y0:Y≠0:=fun c=>n (by rw [hse,c];rfl)
     have t1:=Fz7 h (fun c=>o (q1.2 c))
     have t2:=Fz7 k (fun c=>y0 (q2.2 c))
     have l1:lv l≠0:=fun c=>o (by rw [c,Nat.zero_mul] at x;omega)
     have l2:lv m≠0:=fun c=>y0 (by rw [c,Nat.zero_mul] at y;omega)
     have bX:blN X.natAbs=blN (lv l)+(e+65536).toNat:=by rw [x];exact As4 _ _ l1
     have bY:blN Y.natAbs=blN (lv m)+(f+65536).toNat:=by rw [y];exact As4 _ _ l2
     rw [t1,AA,t2,AA]
     refine Ba5 (fun aa=>?_) (fun aa=>?_)
     · have hne:e+(blN (lv l):Int)≠f+(blN (lv m):Int):=by simpa using aa
       rw [AA,AA]
       refine Ba5 (fun r=>?_) (fun r=>?_)
       · have lt:e+(blN (lv l):Int)<f+(blN (lv m):Int):=by simpa using r
         have:=By6 (a:=X.natAbs) (b:=Y.natAbs) (by omega)
         unfold Dd5
         rcases Ae7 X with ⟨a,b⟩ | ⟨a,b⟩ | ⟨a,b⟩
         · have:Y<0:=by rcases Ae7 Y with ⟨c,d⟩ | ⟨c,d⟩ | ⟨c,d⟩<;>omega
           rw [b,if_neg (by omega),if_neg (by omega)];rfl
         · exact absurd a o
         · have:0<Y:=by rcases Ae7 Y with ⟨c,d⟩ | ⟨c,d⟩ | ⟨c,d⟩<;>omega
           rw [b,if_pos (by omega)];rfl
       · have lt : ¬ e+(blN (lv l):Int)<f+(blN (lv m):Int):=by simpa using r
         have:=By6 (a:=Y.natAbs) (b:=X.natAbs) (by omega)
         unfold Dd5
         rcases Ae7 X with ⟨a,b⟩ | ⟨a,b⟩ | ⟨a,b⟩
         · have:Y<0:=by rcases Ae7 Y with ⟨c,d⟩ | ⟨c,d⟩ | ⟨c,d⟩<;>omega
           rw [b,if_pos (by omega)]
         · exact absurd a o
         · have:0<Y:=by rcases Ae7 Y with ⟨c,d⟩ | ⟨c,d⟩ | ⟨c,d⟩<;>omega
           rw [b,if_neg (by omega),if_neg (by omega)]
     · rw [Em7 h,AA,Em7 k,AA]
       have core:∀ {a b:Int},a.natAbs<2^16384→b.natAbs<2^16384→∀ d:Nat,d≤131072→Bf5 a (d:Int)=some (a*((2^d:Nat):Int))∧(a*((2^d:Nat):Int)).natAbs<2^(16384+d):=fun {a b} ha hb d hd=>by
        have hlt:=Cc7 (z:=a) (j:=d) rfl ha
        refine ⟨?_,hlt⟩
        unfold Bf5
        rw [if_pos ⟨by omega,by omega⟩,Ba3 ha (by omega),AA,Int.toNat_natCast,Ba3 hlt (by omega)]
       have cmp:∀ {a b:Int} {i j:Nat},a.natAbs<2^i→b.natAbs<2^j→i≤200000→j≤200000→Dy7 a b=some (Dd5 a b):=fun {a b i j} ha hb hi hj=>by
        unfold Dy7
        rw [Ba3 ha (by omega),Ba3 hb (by omega)];rfl
       by_cases c:e>f
       · obtain ⟨d,hd⟩:∃ d:Nat,e-f=d:=⟨(e-f).toNat,by omega⟩
         obtain ⟨u,v⟩:=core p q d (by omega)
         rw [Ab0 (by simpa using c),hd,wrN (by omega),Ap1 (by omega),u,AA,AA]
         dsimp only
         rw [cmp v q (by omega) (by omega),AA,v1,v2]
         have:(e+65536).toNat=d+(f+65536).toNat:=by omega
         rw [this,Nat.pow_add,Int.natCast_mul,← Int.mul_assoc,El4]
       · obtain ⟨d,hd⟩:∃ d:Nat,f-e=d:=⟨(f-e).toNat,by omega⟩
         obtain ⟨u,v⟩:=core q p d (by omega)
         rw [Ab1 (by simpa using c),hd,wrN (by omega),Ap1 (by omega),u,AA,AA]
         dsimp only
         rw [cmp p v (by omega) (by omega),AA,v1,v2]
         have:(f+65536).toNat=d+(e+65536).toNat:=by omega
         rw [this,Nat.pow_add,Int.natCast_mul,← Int.mul_assoc,El4]
end Go.Eng
