/-
  What the arguments that a statement lets in come to, opened: matrices, lists of floats; a call's way from one form to another. No condition.
-/
import Derived.Test.YtgbilchfljlbeaaGreatDoorHum2
import Derived.OpenShut
import Derived.ProofKit
import Derived.Lib.SmallJoins
import Derived.Test.YtgbilchfljlbeaaGreatDoorTw2
import Derived.Deep.Strs
set_option linter.all false
namespace Go.Eng
open Go Go.ChangeShapes Go.WideShapes
theorem Gl7 {P : Program} {f : FuncId} {fn : Func} {args : Array Value} {w : World} {K : Value → World → Prop} (hf : P.funcs[f]? = some fn) (hn : (fn.name == "runtime.NumGoroutine") = false) (hb : fn.body.isNone = false) (h : Aa1 P f args w K) :
    Calls P f args w fun e w'=>∃ v,e = .returned v∧K v w':=by
  unfold Aa1 callFunc at h
  simp only [Sem.run_bind,run_program,Result.andThen_ok,hf,hn,hb,Bool.false_eq_true,if_false,Sem.run_pure] at h
  exact h
theorem Gc9 {P : Program} {f : FuncId} {fn : Func} {args : Array Value} {w : World} {K : Value → World → Prop} (hf : P.funcs[f]? = some fn) (hn : (fn.name == "runtime.NumGoroutine") = false) (hb : fn.body.isNone = false) (h : Calls P f args w fun e w' => ∃ v, e = .returned v ∧ K v w') :
    Aa1 P f args w K:=by
  unfold Aa1 callFunc
  simp only [Sem.run_bind,run_program,Result.andThen_ok,hf,hn,hb,Bool.false_eq_true,if_false,Sem.run_pure]
  exact h
def Dd0 {H:Type}:DataW H→Nat
  | .slice es _=>es.length
  | _=>0
section
variable {H:Type} {enc:TypeId×Value→H} {P:Program} {w:World} {base:Nat} {spare:Nat→Bool} {held:Bool}
theorem Fk1 {t:TypeId} {n:Nat} {cs:List Value} {x:DataW H×List MemPlace} (ht:P.underlying t=some (.float .f64)) (h:DataW.trod enc P w base spare held n t cs=some x):∃ b,cs = [.float .f64 b]∧x=(.lit (.float .f64 b),[])∧(Lit.float .f64 b).wf=true:=by
  cases n with
  | zero=>simp [DataW.trod] at h
  | succ n=>
    unfold DataW.trod at h
    rw [ht] at h
    split at h<;>simp_all
theorem Bg3 {t e:TypeId} {fuel:Nat} {cs:List Value} {x:DataW H×List MemPlace} (ht:P.underlying t=some (.slice e)) (he:P.underlying e=some (.float .f64)) (hc:P.cellsOf e=1)
    (h:DataW.trod enc P w base spare held fuel t cs=some x):∃ (a:Option Addr) (n c:Nat) (l:List Nat),cs = [.slice a n c]∧Reals w a n c l∧n=Dd0 x.1∧∀ y∈l,y<18446744073709551616:=by
  rcases DataW.trod_slice ht h with ⟨rfl,rfl⟩ | ⟨a,len,cap,elems,rest,n,_,rfl,rfl,hb,hl,hm,hlen,hel,hsp,hns⟩
  · exact ⟨none,0,0,[],rfl,⟨rfl,Nat.le_refl _,fun i hi=>by simp at hi⟩,rfl,fun y hy=>by cases hy⟩
  · refine ⟨some a,len,cap,elems.map (fun y=>match y.1 with | .lit (.float _ b)=>b | _=>0),rfl,⟨by simp [hlen],hl,fun i hi=>⟨a,rfl,?_⟩⟩,by simp [Dd0,hlen],fun y hy=>?_⟩
    case refine_2=>
      obtain ⟨z,hz,rfl⟩:=List.mem_map.1 hy
      obtain ⟨i,hi,rfl⟩:=List.getElem_of_mem hz
      have:=hel i (by omega)
      rw [hc,Nat.mul_one,List.getElem?_eq_getElem hi,Option.bind_eq_some_iff] at this
      obtain ⟨cs',hcs,hy⟩:=this
      obtain ⟨b,rfl,hx,hwf⟩:=Fk1 he hy
      rw [hx]
      exact of_decide_eq_true hwf
    have hi':i<elems.length:=by simpa using hi
    have:=hel i (by omega)
    rw [hc,Nat.mul_one,List.getElem?_eq_getElem hi',Option.bind_eq_some_iff] at this
    obtain ⟨cs',hcs,hy⟩:=this
    obtain ⟨b,rfl,hx,_⟩:=Fk1 he hy
    have hcell:=cell_of_cells?_one hcs
    rw [hcell]
    simp [hi',hx]
end
end Go.Eng
/-
  What the arguments that a statement lets in come to, opened: lists of whole numbers of any kind. No condition.
-/
namespace Go.Eng
open Go Go.ChangeShapes Go.WideShapes
section
variable {H:Type} {enc:TypeId×Value→H} {P:Program} {w:World} {base:Nat} {spare:Nat→Bool} {held:Bool}
end
end Go.Eng
/-
  What an argument that is a struct of two structs and two lists comes to, opened. No condition.
-/
namespace Go.Eng
open Go Go.ChangeShapes Go.WideShapes Go.Joins Go.Deep
theorem Hi3 {α:Type} {cs:Array α} (h:cs.size=8):∃ c0 c1 c2 c3 c4 c5 c6 c7,cs = #[c0,c1,c2,c3,c4,c5,c6,c7]:=by
  obtain ⟨l⟩:=cs
  match l,h with
  | [c0,c1,c2,c3,c4,c5,c6,c7],_=>exact ⟨c0,c1,c2,c3,c4,c5,c6,c7,rfl⟩
section
variable {H:Type} {enc:TypeId×Value→H} {P:Program} {w:World} {base:Nat} {spare:Nat→Bool} {held:Bool}
theorem Ga1 {r:Reach} {b0:Nat} {t:TypeId} {f0 f1 f2 f3 a0 a1 a2 e0 e1 e2:Field} {v:Value} {d:DataW H} {p:List MemPlace} (hs:P.underlying t=some (.struct #[f0,f1,f2,f3]))
    (ha:P.underlying f0.type=some (.struct #[a0,a1,a2])) (he:P.underlying f1.type=some (.struct #[e0,e1,e2]))
    (h0:f0.offset=0∧P.cellsOf f0.type=3∧f1.offset=3∧P.cellsOf f1.type=3∧f2.offset=6∧P.cellsOf f2.type=1∧f3.offset=7∧P.cellsOf f3.type=1)
    (oa:oneCellFields P #[a0,a1,a2]=true) (oe:oneCellFields P #[e0,e1,e2]=true) (hC:P.cellsOf t=8)
    (hv:Value.okWide P w r b0 t v) (h:DataW.Trod enc P w base spare held t v d p) :
    ∃ (c0 c1 c2 c3 c4 c5 c6 c7:Value) (y0 y1 y2 y3 y4 y5 y6 y7:DataW H×List MemPlace) (n m k:Nat),v = .agg #[c0,c1,c2,c3,c4,c5,c6,c7]∧d = .agg [.agg [y0.1,y1.1,y2.1],.agg [y3.1,y4.1,y5.1],y6.1,y7.1] ∧
      DataW.trod enc P w base spare held n a0.type [c0]=some y0∧DataW.trod enc P w base spare held n a1.type [c1]=some y1∧DataW.trod enc P w base spare held n a2.type [c2]=some y2 ∧
      DataW.trod enc P w base spare held m e0.type [c3]=some y3∧DataW.trod enc P w base spare held m e1.type [c4]=some y4∧DataW.trod enc P w base spare held m e2.type [c5]=some y5 ∧
      DataW.trod enc P w base spare held k f2.type [c6]=some y6∧DataW.trod enc P w base spare held k f3.type [c7]=some y7:=by
  obtain ⟨cs,rfl,hsz⟩:=okWide_struct hs hv
  obtain ⟨c0,c1,c2,c3,c4,c5,c6,c7,rfl⟩:=Hi3 (hsz.trans hC)
  obtain ⟨fuel,hf⟩:=h
  obtain ⟨z0,z1,y6,y7,k,hx,_,g0,g1,g6,g7⟩:=trod_struct4 hs hf
  obtain ⟨i0,k0,i1,k1,i2,k2,i3,k3⟩:=h0
  simp only [Value.cells,i0,k0,i1,k1,i2,k2,i3,k3] at g0 g1 g6 g7
  obtain ⟨y0,y1,y2,n,hz0,_,u0,u1,u2⟩:=Deep.trod_struct3 ha g0
  obtain ⟨y3,y4,y5,m,hz1,_,u3,u4,u5⟩:=Deep.trod_struct3 he g1
  obtain ⟨o0,q0⟩:=hone_of oa 0 a0 rfl
  obtain ⟨o1,q1⟩:=hone_of oa 1 a1 rfl
  obtain ⟨o2,q2⟩:=hone_of oa 2 a2 rfl
  obtain ⟨o3,q3⟩:=hone_of oe 0 e0 rfl
  obtain ⟨o4,q4⟩:=hone_of oe 1 e1 rfl
  obtain ⟨o5,q5⟩:=hone_of oe 2 e2 rfl
  simp only [Prod.mk.injEq] at hx
  refine ⟨c0,c1,c2,c3,c4,c5,c6,c7,y0,y1,y2,y3,y4,y5,y6,y7,n,m,k,rfl,by rw [hx.1,hz0,hz1],?_,?_,?_,?_,?_,?_,?_,?_⟩
  · simpa [o0,q0] using u0
  · simpa [o1,q1] using u1
  · simpa [o2,q2] using u2
  · simpa [o3,q3] using u3
  · simpa [o4,q4] using u4
  · simpa [o5,q5] using u5
  · simpa using g6
  · simpa using g7
end
end Go.Eng
