/-
  The functions of math/bits that count bits: contracts. The one that reads a table asks that the table lie there. No condition.
-/
import Derived.Test.YtgbilchfljlbeaaDoorSh
import Derived.Test.YtgbilchfljlbeaaDoorBgo
set_option linter.all false
set_option maxRecDepth 100000
set_option maxHeartbeats 4000000
namespace Go.Eng
open Go
section
variable {N:Nums} {P:Program} (H:AllOk N P)
include H
theorem tz64_c {w0 w:World} {L:List It} {q:Int} {K:Value→World→Prop} (hS:Ho w0 w L) (hG:Ent L (tab64 N.g_1)) (hK:∀ w1:World,Ho w0 w1 L→K (.int .i64 (tz64 q)) w1):CallsX P N.f_math_bits_TrailingZeros64 #[.int .u64 q] w K:=by
  refine H.math_bits_TrailingZeros64 q w _ ?_
  unfold S_math_bits_TrailingZeros64
  refine cond_i (fun h=>?_) (fun h=>?_)
  · have:q=0:=by simpa using h
    subst this
    exact hK w hS
  · have hq:q≠0:=by simpa using h
    have h12:=ix64_lt q
    have ht:tz64 q=tab64L.getD (ix64 q).toNat 0:=by unfold tz64;rw [if_neg hq]
    rw [ht] at hK
    clear ht
    unfold ix64 at h12 hK
    generalize (IntKind.u64.wrap ((IntKind.u64.wrap (BitVec.ofInt IntKind.u64.bits q &&& BitVec.ofInt IntKind.u64.bits (IntKind.u64.wrap (0-q))).toNat)*285870213051353865)).fdiv (2^(min (58:Int).toNat IntKind.u64.bits))=z at h12 hK ⊢
    have hr:rdA (tab64L.map (Value.int .u8)) (some ⟨N.g_1,0,none⟩) 64 64 w:=hG.now (fun _ h=>h) hS
    have hT:=tab64_le
    have hL:tab64L.length=64:=rfl
    generalize tab64L=T at hr hK hT hL
    obtain ⟨x,hx,hc⟩:=hr.at_ z.toNat (by omega)
    cases hx
    have ht:=hT z.toNat (by omega)
    have hl:z.toNat<T.length:=by omega
    have hv:(T.map (Value.int .u8))[z.toNat]?=some (.int .u8 (T.getD z.toNat 0)):=by
      rw [List.getElem?_map,List.getD_eq_getElem?_getD,List.getElem?_eq_getElem hl,Option.map_some,Option.getD_some]
    refine ⟨by decide,h12.1,h12.2,T.getD z.toNat 0,?_,?_⟩
    · rw [Nat.mul_one,hc,hv]
    · rw [wrI (by omega) (by omega)]
      exact hK w hS
theorem len64_c {w0 w:World} {L:List It} {q:Int} {K:Value→World→Prop} (hS:Ho w0 w L) (h0:0≤q) (h1:q≤18446744073709551615) (hK:∀ w1:World,Ho w0 w1 L→K (.int .i64 ((blN q.toNat:Nat):Int)) w1):CallsX P N.f_math_bits_Len64 #[.int .u64 q] w K:=by
  refine H.math_bits_Len64 q h0 h1 w _ ?_
  rw [bitLen_bl (by omega)]
  exact hK w hS
end
end Go.Eng
