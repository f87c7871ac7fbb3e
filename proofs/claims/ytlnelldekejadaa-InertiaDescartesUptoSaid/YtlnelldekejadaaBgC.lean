/-
  The method that all others end in: what is given is laid into the struct. No condition.
-/
import Derived.Test.YtlnelldekejadaaSh
import Derived.Test.YtlnelldekejadaaBgo
set_option linter.all false
set_option maxRecDepth 100000
set_option maxHeartbeats 4000000
namespace Go.Eng
open Go
section
variable {N:Nums} {P:Program} (H:AllOk N P)
include H
theorem give_c {w0 w:World} {L:List It} {r I:Nat} {b0 s0:Value} {neg:Bool} {a:Option Addr} {n c:Nat} {ws:List Int} {K:Value→World→Prop} (hS:Ho w0 w (cl r [b0,s0] I::L)) (ha:Ent (cl r [b0,s0] I::L) (rdA (ws.map (Value.int .u32)) a n c))
    (hK:∀ w1:World,Ho w0 w1 (cl r [.bool (neg&&decide (0<ws.length)),.slice a n c] I::L)→K (.pointer (some ⟨r,0,none⟩)) w1):CallsX P N.f_bI_give #[.pointer (some ⟨r,0,none⟩),.bool neg,.slice a n c] w K:=by
  refine H.bI_give _ neg a n c w _ ?_
  unfold S_bI_give
  have hn:n=ws.length:=by
    have:=(ha.now (fun _ h=>h) hS).len
    rwa [List.length_map] at this
  refine optM_s ?_
  refine stc_s (i:=1) hS rfl rfl ?_
  intro w1 hS1
  refine cond_i (fun hc=>?_) (fun hc=>?_)
  · refine optM_s ?_
    refine stc_s (i:=0) hS1 rfl rfl ?_
    intro w2 hS2
    refine hK w2 ?_
    have e:(decide (((n:Nat):Int)>0))=(neg&&decide (0<ws.length)):=by
      rw [hc,Bool.true_and,hn];simp
    rw [← e]
    exact hS2
  · refine optM_s ?_
    refine stc_s (i:=0) hS1 rfl rfl ?_
    intro w2 hS2
    refine hK w2 ?_
    rw [hc,Bool.false_and]
    exact hS2
end
end Go.Eng
