/-
  The method that all others end in: what is given is laid into the struct. No condition.
-/
import Derived.Test.YtgbilchfljlbeaaGreatDoorSh
import Derived.Test.YtgbilchfljlbeaaGreatDoorBgo
set_option linter.all false
set_option maxRecDepth 100000
set_option maxHeartbeats 4000000
namespace Go.Eng
open Go
section
variable {N:Nums} {P:Program} (H:AllOk N P)
include H
theorem Bd3 {w0 w:World} {L:List It} {r I:Nat} {b0 s0:Value} {neg:Bool} {a:Option Addr} {n c:Nat} {ws:List Int} {K:Value→World→Prop} (hS:Ho w0 w (cl r [b0,s0] I::L)) (ha:Ent (cl r [b0,s0] I::L) (rdA (ws.map (Value.int .u32)) a n c))
    (hK:∀ w1:World,Ho w0 w1 (cl r [.bool (neg&&decide (0<ws.length)),.slice a n c] I::L)→K (.pointer (some ⟨r,0,none⟩)) w1):Aa1 P N.Ii9 #[.pointer (some ⟨r,0,none⟩),.bool neg,.slice a n c] w K:=by
  refine H.bI_give _ neg a n c w _ ?_
  unfold Er9
  have hn:n=ws.length:=by
    have:=(ha.now (fun _ h=>h) hS).len
    rwa [List.length_map] at this
  refine Ad6 ?_
  refine Aa4 (i:=1) hS rfl rfl ?_
  intro w1 hS1
  refine Br4 (fun hc=>?_) (fun hc=>?_)
  · refine Ad6 ?_
    refine Aa4 (i:=0) hS1 rfl rfl ?_
    intro w2 hS2
    refine hK w2 ?_
    have e:(decide (((n:Nat):Int)>0))=(neg&&decide (0<ws.length)):=by
      rw [hc,Bool.true_and,hn];simp
    rw [← e]
    exact hS2
  · refine Ad6 ?_
    refine Aa4 (i:=0) hS1 rfl rfl ?_
    intro w2 hS2
    refine hK w2 ?_
    rw [hc,Bool.false_and]
    exact hS2
end
end Go.Eng
