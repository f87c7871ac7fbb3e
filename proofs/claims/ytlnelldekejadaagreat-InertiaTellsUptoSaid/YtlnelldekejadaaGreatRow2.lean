/-
  What the arguments that a statement lets in come to, opened: matrices, lists of floats; a call's way from one form to another. No condition.
-/
import Derived.Test.YtlnelldekejadaaGreatHum2
import Derived.OpenShut
import Derived.ProofKit
import Derived.Lib.SmallJoins
import Derived.Test.YtlnelldekejadaaGreatTw2
set_option linter.all false
open List renaming getElem?_eq_getElem→AA
open Option renaming bind_eq_some_iff→AB
open Bool renaming false_eq_true→AC
namespace Go.Eng
open Go Go.ChangeShapes Go.WideShapes
theorem Fv6 {P : Program} {f : FuncId} {fn : Func} {args : Array Value} {w : World} {K : Value → World → Prop} (hf : P.funcs[f]? = some fn) (hn : (fn.name == "runtime.NumGoroutine") = false) (hb : fn.body.isNone = false) (h : Aa1 P f args w K) :
 Calls P f args w fun e w'=>∃ v,e = .returned v∧K v w':=by
 unfold Aa1 callFunc at h
 simp only [Sem.run_bind,run_program,Result.andThen_ok,hf,hn,hb,AC,if_false,Sem.run_pure] at h
 exact h
theorem Fe5 {P : Program} {f : FuncId} {fn : Func} {args : Array Value} {w : World} {K : Value → World → Prop} (hf : P.funcs[f]? = some fn) (hn : (fn.name == "runtime.NumGoroutine") = false) (hb : fn.body.isNone = false) (h : Calls P f args w fun e w' => ∃ v, e = .returned v ∧ K v w') :
 Aa1 P f args w K:=by
 unfold Aa1 callFunc
 simp only [Sem.run_bind,run_program,Result.andThen_ok,hf,hn,hb,AC,if_false,Sem.run_pure]
 exact h
def Bp7 {H:Type}:DataW H→Nat
 | .slice es _=>es.length
 | _=>0
section
variable {H:Type} {enc:TypeId×Value→H} {P:Program} {w:World} {base:Nat} {spare:Nat→Bool} {held:Bool}
end
end Go.Eng
/-
  What the arguments that a statement lets in come to, opened: lists of whole numbers of any kind. No condition.
-/
namespace Go.Eng
open Go Go.ChangeShapes Go.WideShapes
section
variable {H:Type} {enc:TypeId×Value→H} {P:Program} {w:World} {base:Nat} {spare:Nat→Bool} {held:Bool}
theorem Ds5 {k:IntKind} {t:TypeId} {n:Nat} {cs:List Value} {x:DataW H×List MemPlace} (ht:P.underlying t=some (.int k)) (h:DataW.trod enc P w base spare held n t cs=some x):∃ b,cs = [.int k b]∧x=(.lit (.int k b),[])∧(Lit.int k b).wf=true:=by
 cases n with
 | zero=>simp [DataW.trod] at h
 | succ n=>
   unfold DataW.trod at h
   rw [ht] at h
   split at h<;>simp_all
theorem Dq4 {k:IntKind} {t e:TypeId} {fuel:Nat} {cs:List Value} {x:DataW H×List MemPlace} (ht:P.underlying t=some (.slice e)) (he:P.underlying e=some (.int k)) (hc:P.cellsOf e=1)
 (h:DataW.trod enc P w base spare held fuel t cs=some x):∃ (a:Option Addr) (n c:Nat) (l:List Int),cs = [.slice a n c]∧rdA (l.map (Value.int k)) a n c w∧n=Bp7 x.1∧∀ y∈l,(Lit.int k y).wf=true:=by
 rcases DataW.trod_slice ht h with ⟨rfl,rfl⟩ | ⟨a,len,cap,elems,rest,n,_,rfl,rfl,hb,hl,hm,hlen,hel,hsp,hns⟩
 · exact ⟨none,0,0,[],rfl,⟨rfl,Nat.le_refl _,fun i hi=>by omega⟩,rfl,fun y hy=>by cases hy⟩
 · refine ⟨some a,len,cap,elems.map (fun y=>match y.1 with | .lit (.int _ b)=>b | _=>0),rfl,⟨by simp [hlen],hl,fun i hi=>⟨a,rfl,?_⟩⟩,by simp [Bp7,hlen],fun y hy=>?_⟩
   case refine_2=>
    obtain ⟨z,hz,rfl⟩:=List.mem_map.1 hy
    obtain ⟨i,hi,rfl⟩:=List.getElem_of_mem hz
    have:=hel i (by omega)
    rw [hc,Nat.mul_one,AA hi,AB] at this
    obtain ⟨cs',hcs,hy⟩:=this
    obtain ⟨b,rfl,hx,hwf⟩:=Ds5 he hy
    rw [hx]
    exact hwf
   have hi':i<elems.length:=by omega
   have:=hel i (by omega)
   rw [hc,Nat.mul_one,AA hi',AB] at this
   obtain ⟨cs',hcs,hy⟩:=this
   obtain ⟨b,rfl,hx,_⟩:=Ds5 he hy
   have hcell:=cell_of_cells?_one hcs
   rw [hcell]
   simp [hi',hx]
end
end Go.Eng
