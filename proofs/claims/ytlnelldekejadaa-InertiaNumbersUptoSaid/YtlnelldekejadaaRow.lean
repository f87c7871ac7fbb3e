/-
  What the arguments that a statement lets in come to, opened: matrices, lists of floats; a call's way from one form to another. No condition.
-/
import Derived.Test.YtlnelldekejadaaHum2
import Derived.OpenShut
import Derived.ProofKit
import Derived.Lib.SmallJoins
set_option linter.all false
namespace Go.Eng
open Go Go.ChangeShapes Go.WideShapes
theorem calls_of {P : Program} {f : FuncId} {fn : Func} {args : Array Value} {w : World} {K : Value → World → Prop} (hf : P.funcs[f]? = some fn) (hn : (fn.name == "runtime.NumGoroutine") = false) (hb : fn.body.isNone = false) (h : CallsX P f args w K) :
    Calls P f args w fun e w'=>∃ v,e = .returned v∧K v w':=by
  unfold CallsX callFunc at h
  simp only [Sem.run_bind,run_program,Result.andThen_ok,hf,hn,hb,Bool.false_eq_true,if_false,Sem.run_pure] at h
  exact h
theorem callsX_of {P : Program} {f : FuncId} {fn : Func} {args : Array Value} {w : World} {K : Value → World → Prop} (hf : P.funcs[f]? = some fn) (hn : (fn.name == "runtime.NumGoroutine") = false) (hb : fn.body.isNone = false) (h : Calls P f args w fun e w' => ∃ v, e = .returned v ∧ K v w') :
    CallsX P f args w K:=by
  unfold CallsX callFunc
  simp only [Sem.run_bind,run_program,Result.andThen_ok,hf,hn,hb,Bool.false_eq_true,if_false,Sem.run_pure]
  exact h
def elemsIn {H:Type}:DataW H→Nat
  | .slice es _=>es.length
  | _=>0
section
variable {H:Type} {enc:TypeId×Value→H} {P:Program} {w:World} {base:Nat} {spare:Nat→Bool} {held:Bool}
end
end Go.Eng
