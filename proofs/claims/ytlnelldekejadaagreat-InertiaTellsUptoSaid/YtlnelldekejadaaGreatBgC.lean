/-
  The method that all others end in: what is given is laid into the struct. No condition.
-/
import Derived.Test.YtlnelldekejadaaGreatSh
import Derived.Test.YtlnelldekejadaaGreatBgo
set_option linter.all false
set_option maxRecDepth 100000
set_option maxHeartbeats 4000000
namespace Go.Eng
open Go
section
variable {N:Nums} {P:Program} (H:AllOk N P)
include H
theorem Ba9 {w0 w:World} {L:List It} {r I:Nat} {f s0:Value} {neg:Bool} {a:Option Addr} {n c:Nat} {ws:List Int} {K:Value→World→Prop} (hS:Ho w0 w (cl r [f,s0] I::L)) (ha:Ent (cl r [f,s0] I::L) (rdA (ws.map (Value.int .u32)) a n c))
 (hK:∀ b:World,Ho w0 b (cl r [.bool (neg&&decide (0<ws.length)),.slice a n c] I::L)→K (.pointer (some ⟨r,0,none⟩)) b):Aa1 P N.Hp8 #[.pointer (some ⟨r,0,none⟩),.bool neg,.slice a n c] w K:=by
 refine H.bI_give _ neg a n c w _ ?_
 unfold Eb6
 have hn:n=ws.length:=by
  have:=(ha.nw hS).len
  rwa [List.length_map] at this
 refine Ac0 ?_
 refine Aa8 (i:=1) hS rfl rfl ?_
 intro b hS1
 refine Ab7 (fun hc=>?_) (fun hc=>?_)
 · refine Ac0 ?_
   refine Aa8 (i:=0) hS1 rfl rfl ?_
   intro d hS2
   refine hK d ?_
   have e:(decide (((n:Nat):Int)>0))=(neg&&decide (0<ws.length)):=by
    rw [hc,Bool.true_and,hn];simp
   rw [← e]
   exact hS2
 · refine Ac0 ?_
   refine Aa8 (i:=0) hS1 rfl rfl ?_
   intro d hS2
   refine hK d ?_
   rw [hc,Bool.false_and]
   exact hS2
end
end Go.Eng
