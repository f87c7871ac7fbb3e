/-
  What an argument that is a struct of two structs and two lists comes to, opened. No condition.
-/
import Derived.Test.YtgbilchfljlbeaaGreatDoorRow2
import Derived.Deep.Strs
set_option linter.all false
namespace Go.Eng
open Go Go.ChangeShapes Go.WideShapes Go.Joins Go.Deep
theorem array8 {α:Type} {cs:Array α} (h:cs.size=8):∃ c0 c1 c2 c3 c4 c5 c6 c7,cs = #[c0,c1,c2,c3,c4,c5,c6,c7]:=by
  obtain ⟨l⟩:=cs
  match l,h with
  | [c0,c1,c2,c3,c4,c5,c6,c7],_=>exact ⟨c0,c1,c2,c3,c4,c5,c6,c7,rfl⟩
section
variable {H:Type} {enc:TypeId×Value→H} {P:Program} {w:World} {base:Nat} {spare:Nat→Bool} {held:Bool}
theorem open_case {r:Reach} {b0:Nat} {t:TypeId} {f0 f1 f2 f3 a0 a1 a2 e0 e1 e2:Field} {v:Value} {d:DataW H} {p:List MemPlace} (hs:P.underlying t=some (.struct #[f0,f1,f2,f3]))
    (ha:P.underlying f0.type=some (.struct #[a0,a1,a2])) (he:P.underlying f1.type=some (.struct #[e0,e1,e2]))
    (h0:f0.offset=0∧P.cellsOf f0.type=3∧f1.offset=3∧P.cellsOf f1.type=3∧f2.offset=6∧P.cellsOf f2.type=1∧f3.offset=7∧P.cellsOf f3.type=1)
    (oa:oneCellFields P #[a0,a1,a2]=true) (oe:oneCellFields P #[e0,e1,e2]=true) (hC:P.cellsOf t=8)
    (hv:Value.okWide P w r b0 t v) (h:DataW.Trod enc P w base spare held t v d p) :
    ∃ (c0 c1 c2 c3 c4 c5 c6 c7:Value) (y0 y1 y2 y3 y4 y5 y6 y7:DataW H×List MemPlace) (n m k:Nat),v = .agg #[c0,c1,c2,c3,c4,c5,c6,c7]∧d = .agg [.agg [y0.1,y1.1,y2.1],.agg [y3.1,y4.1,y5.1],y6.1,y7.1] ∧
      DataW.trod enc P w base spare held n a0.type [c0]=some y0∧DataW.trod enc P w base spare held n a1.type [c1]=some y1∧DataW.trod enc P w base spare held n a2.type [c2]=some y2 ∧
      DataW.trod enc P w base spare held m e0.type [c3]=some y3∧DataW.trod enc P w base spare held m e1.type [c4]=some y4∧DataW.trod enc P w base spare held m e2.type [c5]=some y5 ∧
      DataW.trod enc P w base spare held k f2.type [c6]=some y6∧DataW.trod enc P w base spare held k f3.type [c7]=some y7:=by
  obtain ⟨cs,rfl,hsz⟩:=okWide_struct hs hv
  obtain ⟨c0,c1,c2,c3,c4,c5,c6,c7,rfl⟩:=array8 (hsz.trans hC)
  obtain ⟨fuel,hf⟩:=h
  obtain ⟨z0,z1,y6,y7,k,hx,_,g0,g1,g6,g7⟩:=trod_struct4 hs hf
  obtain ⟨i0,k0,i1,k1,i2,k2,i3,k3⟩:=h0
  simp only [Value.cells,i0,k0,i1,k1,i2,k2,i3,k3] at g0 g1 g6 g7
  obtain ⟨y0,y1,y2,n,hz0,_,u0,u1,u2⟩:=Deep.trod_struct3 ha g0
  obtain ⟨y3,y4,y5,m,hz1,_,u3,u4,u5⟩:=Deep.trod_struct3 he g1
  obtain ⟨o0,q0⟩:=hone_of oa 0 a0 rfl
  obtain ⟨o1,q1⟩:=hone_of oa 1 a1 rfl
  obtain ⟨o2,q2⟩:=hone_of oa 2 a2 rfl
  obtain ⟨o3,q3⟩:=hone_of oe 0 e0 rfl
  obtain ⟨o4,q4⟩:=hone_of oe 1 e1 rfl
  obtain ⟨o5,q5⟩:=hone_of oe 2 e2 rfl
  simp only [Prod.mk.injEq] at hx
  refine ⟨c0,c1,c2,c3,c4,c5,c6,c7,y0,y1,y2,y3,y4,y5,y6,y7,n,m,k,rfl,by rw [hx.1,hz0,hz1],?_,?_,?_,?_,?_,?_,?_,?_⟩
  · simpa [o0,q0] using u0
  · simpa [o1,q1] using u1
  · simpa [o2,q2] using u2
  · simpa [o3,q3] using u3
  · simpa [o4,q4] using u4
  · simpa [o5,q5] using u5
  · simpa using g6
  · simpa using g7
end
end Go.Eng
