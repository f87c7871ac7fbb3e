/-
  What an argument that is a list of dyads comes to, opened. No condition.
-/
import Derived.Test.YtlnelldekejadaaRow2
import Derived.Test.YtlnelldekejadaaTw5
import Derived.Test.YtlnelldekejadaaLw0
import Derived.Deep.Strs
set_option linter.all false
set_option maxRecDepth 100000
namespace Go.Eng
open Go Go.ChangeShapes Go.WideShapes Go.Joins Go.Deep
theorem list_two {α β:Type} {P:Nat→α→β→Prop}:∀ {n:Nat},(∀ i,i<n→∃ d g,P i d g)→∃ (l:List α) (h:List β),l.length=n∧h.length=n∧∀ i,i<n→∃ d g,l[i]?=some d∧h[i]?=some g∧P i d g
  | 0,_=>⟨[],[],rfl,rfl,fun i h=>by omega⟩
  | n+1,H=>by
    obtain ⟨l,h,h1,h2,h3⟩:=list_two (n:=n) fun i hi=>H i (by omega)
    obtain ⟨d,g,hp⟩:=H n (by omega)
    refine ⟨l ++ [d],h ++ [g],by simp [h1],by simp [h2],fun i hi=>?_⟩
    by_cases c:i<n
    · obtain ⟨d',g',a1,a2,a3⟩:=h3 i c
      exact ⟨d',g',by rw [List.getElem?_append_left (by omega)];exact a1,by rw [List.getElem?_append_left (by omega)];exact a2,a3⟩
    · obtain rfl:i=n:=by omega
      exact ⟨d,g,by rw [List.getElem?_append_right (by omega),h1,Nat.sub_self];rfl,by rw [List.getElem?_append_right (by omega),h2,Nat.sub_self];rfl,hp⟩
section
variable {H:Type} {enc:TypeId×Value→H} {P:Program} {w:World} {base:Nat} {spare:Nat→Bool} {held:Bool}
def DyIn (x:DataW H) (d:Dy):Prop:=(∀ y∈d.2.1,(Lit.int .u64 y).wf=true)∧∃ (es sp:List (DataW H)) (b s e:DataW H),x = .slice es sp∧DataW.agg [b,s,e]∈es∧d.2.1.length=elemsIn s
theorem open_dyads {t e u:TypeId} {f0 f1 f2:Field} {fuel:Nat} {cs:List Value} {x:DataW H×List MemPlace} (ht:P.underlying t=some (.slice e)) (he:P.underlying e=some (.struct #[f0,f1,f2])) (hone:oneCellFields P #[f0,f1,f2]=true) (hc:P.cellsOf e=3)
    (h0:P.underlying f0.type=some .bool) (h1:P.underlying f1.type=some (.slice u)) (hu:P.underlying u=some (.int .u64)) (hcu:P.cellsOf u=1) (h2:P.underlying f2.type=some (.int .i64))
    (h:DataW.trod enc P w base spare held fuel t cs=some x) :
    ∃ (a:Option Addr) (n c:Nat) (l:List Dy) (hh:List Hd),cs = [.slice a n c]∧rdA (dyC l hh) a (n*3) (c*3) w∧n=elemsIn x.1∧l.length=n∧hh.length=n ∧
      (∀ i,i<n→∃ d g,l[i]?=some d∧hh[i]?=some g∧rdA (d.2.1.map (Value.int .u64)) g.1 g.2.1 g.2.2 w)∧∀ d∈l,DyIn x.1 d:=by
  rcases DataW.trod_slice ht h with ⟨rfl,rfl⟩ | ⟨a,len,cap,elems,rest,n,_,rfl,rfl,hb,hl,hm,hlen,hel,hsp,hns⟩
  · exact ⟨none,0,0,[],[],rfl,⟨rfl,Nat.le_refl _,fun i hi=>by omega⟩,rfl,rfl,rfl,fun i hi=>by omega,fun d hd=>by cases hd⟩
  · obtain ⟨o0,k0⟩:=hone_of hone 0 f0 rfl
    obtain ⟨o1,k1⟩:=hone_of hone 1 f1 rfl
    obtain ⟨o2,k2⟩:=hone_of hone 2 f2 rfl
    have one:∀ i,i<len→∃ (d:Dy) (g:Hd),(w.cell? (a.add (i*3))=some (.bool d.1)∧w.cell? ((a.add (i*3)).add 1)=some (.slice g.1 g.2.1 g.2.2)∧w.cell? ((a.add (i*3)).add 2)=some (.int .i64 d.2.2))∧rdA (d.2.1.map (Value.int .u64)) g.1 g.2.1 g.2.2 w ∧
        DyIn (.slice (elems.map (·.1)) (rest.map (·.1))) d:=fun i hi=>by
      have:=hel i hi
      rw [hc,List.getElem?_eq_getElem (show i<elems.length by omega),Option.bind_eq_some_iff] at this
      obtain ⟨cs',hcs,hy⟩:=this
      obtain ⟨_,hl3,hcell⟩:=World.cells?_some hcs
      obtain ⟨c0,c1,c2,rfl⟩:∃ c0 c1 c2,cs' = [c0,c1,c2]:=by
        match cs',hl3 with
        | [c0,c1,c2],_=>exact ⟨c0,c1,c2,rfl⟩
      obtain ⟨y0,y1,y2,m,hz,_,u0,u1,u2⟩:=Deep.trod_struct3 he hy
      rw [o0,k0] at u0
      rw [o1,k1] at u1
      rw [o2,k2] at u2
      obtain ⟨b,e0,v0⟩:=DataW.trod_bool h0 u0
      obtain ⟨g1,gn,gc,l,e1,hr,hn,hwf⟩:=open_intk h1 hu hcu u1
      obtain ⟨z,e2,v2,_⟩:=DataW.trod_int h2 u2
      simp only [List.drop_zero,List.drop_succ_cons,List.take_succ_cons,List.take_zero,List.cons.injEq,and_true] at e0 e1 e2
      subst e0 e1 e2
      refine ⟨(b,l,z),(g1,gn,gc),⟨?_,?_,?_⟩,hr,hwf,_,_,y0.1,y1.1,y2.1,rfl,?_,?_⟩
      · have:=hcell 0 (by omega)
        simpa [Addr.add] using this
      · exact hcell 1 (by omega)
      · exact hcell 2 (by omega)
      · refine List.mem_map.2 ⟨elems[i],List.getElem_mem (by omega),?_⟩
        rw [hz]
      · have:=hr.len
        rw [List.length_map] at this
        rw [← this,hn]
    obtain ⟨l,hh,l1,l2,l3⟩:=list_two one
    refine ⟨some a,len,cap,l,hh,rfl,⟨by rw [dyC_len (by omega),l1],by omega,fun k hk=>⟨a,rfl,?_⟩⟩,by simp [elemsIn,hlen],l1,l2,fun i hi=>?_,fun d hd=>?_⟩
    · obtain ⟨d,g,a1,a2,⟨b0,b1,b2⟩,_,_⟩:=l3 (k/3) (by omega)
      obtain ⟨d0,d1,d2⟩:=dyC_get a1 a2
      have hk3:k=k/3*3+k%3:=by omega
      have hcase:k%3=0∨k%3=1∨k%3=2:=by omega
      have hadd:=add_add2 a
      rcases hcase with h | h | h
      · rw [hk3,h,Nat.add_zero,d0,b0]
      · rw [hk3,h,d1,← hadd,b1];rfl
      · rw [hk3,h,d2,← hadd,b2]
    · obtain ⟨d,g,a1,a2,_,a3,_⟩:=l3 i hi
      exact ⟨d,g,a1,a2,a3⟩
    · obtain ⟨i,hi,rfl⟩:=List.mem_iff_getElem.1 hd
      obtain ⟨d,g,a1,_,_,_,a4⟩:=l3 i (by omega)
      rw [List.getElem?_eq_getElem hi] at a1
      cases a1
      exact a4
theorem items_dyads {L:List It}:∀ {l:List Dy} {hh:List Hd},l.length=hh.length→(∀ i,i<l.length→∃ d g,l[i]?=some d∧hh[i]?=some g∧rdA (d.2.1.map (Value.int .u64)) g.1 g.2.1 g.2.2 w)→Ho w w L→(∀ e∈L,e.own=false) →
    ∃ M,Ho w w M∧(∀ e∈M,e.own=false)∧AllD M l hh∧∀ e,e∈L→e∈M
  | [],[],_,_,hS,hn=>⟨L,hS,hn,.nil,fun _ h=>h⟩
  | d::l,g::hh,hl,h,hS,hn=>by
    obtain ⟨M,m1,m2,m3,m4⟩:=items_dyads (l:=l) (hh:=hh) (by simpa using hl) (fun i hi=>h (i+1) (by simp;omega)) hS hn
    obtain ⟨d',g',a1,a2,a3⟩:=h 0 (by simp)
    cases a1
    cases a2
    refine ⟨_,m1.arg m2 a3,own_cons rfl m2,.cons (Ent.rd (List.mem_cons_self ..)) (m3.mono fun e he=>List.mem_cons_of_mem _ he),fun e he=>List.mem_cons_of_mem _ (m4 e he)⟩
  | [],_::_,hl,_,_,_=>by simp at hl
  | _::_,[],hl,_,_,_=>by simp at hl
end
end Go.Eng
