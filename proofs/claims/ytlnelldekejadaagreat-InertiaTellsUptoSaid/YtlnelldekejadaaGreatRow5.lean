/-
  What an argument that is a list of dyads comes to, opened. No condition.
-/
import Derived.Test.YtlnelldekejadaaGreatRow2
import Derived.Test.YtlnelldekejadaaGreatTw5
import Derived.Test.YtlnelldekejadaaGreatLw0
import Derived.Deep.Strs
set_option linter.all false
set_option maxRecDepth 100000
open List renaming getElem?_append_right→AA,getElem?_append_left→AB,getElem?_eq_getElem→AC,mem_cons_of_mem→AD
open Go.Value renaming int→AE
namespace Go.Eng
open Go Go.ChangeShapes Go.WideShapes Go.Joins Go.Deep
theorem Er1 {α β:Type} {P:Nat→α→β→Prop}:∀ {n:Nat},(∀ i,i<n→∃ d g,P i d g)→∃ (l:List α) (h:List β),l.length=n∧h.length=n∧∀ i,i<n→∃ d g,l[i]?=some d∧h[i]?=some g∧P i d g
 | 0,_=>⟨[],[],rfl,rfl,fun i h=>by omega⟩
 | n+1,H=>by
   obtain ⟨l,h,a,b,e⟩:=Er1 (n:=n) fun i hi=>H i (by omega)
   obtain ⟨d,g,hp⟩:=H n (by omega)
   refine ⟨l ++ [d],h ++ [g],by simp [a],by simp [b],fun i hi=>?_⟩
   by_cases c:i<n
   · obtain ⟨d',g',f,j,k⟩:=e i c
     exact ⟨d',g',by rw [AB (by omega)];exact f,by rw [AB (by omega)];exact j,k⟩
   · obtain rfl:i=n:=by omega
     exact ⟨d,g,by rw [AA (by omega),a,Nat.sub_self];rfl,by rw [AA (by omega),b,Nat.sub_self];rfl,hp⟩
section
variable {H:Type} {enc:TypeId×Value→H} {P:Program} {w:World} {base:Nat} {spare:Nat→Bool} {held:Bool}
def Hd1 (x:DataW H) (d:Dy):Prop:=(∀ y∈d.2.1,(Lit.int .u64 y).wf=true)∧∃ (es sp:List (DataW H)) (b s e:DataW H),x = .slice es sp∧DataW.agg [b,s,e]∈es∧d.2.1.length=Bp7 s
theorem Ex3 {t e u:TypeId} {j o p:Field} {fuel:Nat} {cs:List Value} {x:DataW H×List MemPlace} (ht:P.underlying t=some (.slice e)) (he:P.underlying e=some (.struct #[j,o,p])) (hone:oneCellFields P #[j,o,p]=true) (hc:P.cellsOf e=3)
 (h0:P.underlying j.type=some .bool) (h1:P.underlying o.type=some (.slice u)) (hu:P.underlying u=some (.int .u64)) (hcu:P.cellsOf u=1) (h2:P.underlying p.type=some (.int .i64))
 (h:DataW.trod enc P w base spare held fuel t cs=some x) :
 ∃ (a:Option Addr) (n c:Nat) (l:List Dy) (hh:List Hd),cs = [.slice a n c]∧rdA (dyC l hh) a (n*3) (c*3) w∧n=Bp7 x.1∧l.length=n∧hh.length=n ∧
   (∀ i,i<n→∃ d g,l[i]?=some d∧hh[i]?=some g∧rdA (d.2.1.map (AE .u64)) g.1 g.2.1 g.2.2 w)∧∀ d∈l,Hd1 x.1 d:=by
 rcases DataW.trod_slice ht h with ⟨rfl,rfl⟩ | ⟨a,len,cap,elems,rest,n,_,rfl,rfl,hb,hl,hm,hlen,hel,hsp,hns⟩
 · exact ⟨none,0,0,[],[],rfl,⟨rfl,Nat.le_refl _,fun i hi=>by omega⟩,rfl,rfl,rfl,fun i hi=>by omega,fun d hd=>by cases hd⟩
 · obtain ⟨o0,k0⟩:=hone_of hone 0 j rfl
   obtain ⟨o1,k1⟩:=hone_of hone 1 o rfl
   obtain ⟨o2,k2⟩:=hone_of hone 2 p rfl
   have one:∀ i,i<len→∃ (d:Dy) (g:Hd),(w.cell? (a.add (i*3))=some (.bool d.1)∧w.cell? ((a.add (i*3)).add 1)=some (.slice g.1 g.2.1 g.2.2)∧w.cell? ((a.add (i*3)).add 2)=some (.int .i64 d.2.2))∧rdA (d.2.1.map (AE .u64)) g.1 g.2.1 g.2.2 w ∧
    Hd1 (.slice (elems.map (·.1)) (rest.map (·.1))) d:=fun i hi=>by
    have:=hel i hi
    rw [hc,AC (show i<elems.length by omega),Option.bind_eq_some_iff] at this
    obtain ⟨cs',hcs,hy⟩:=this
    obtain ⟨_,ab,hcell⟩:=World.cells?_some hcs
    obtain ⟨q,r,s,rfl⟩:∃ q r s,cs' = [q,r,s]:=by
     match cs',ab with
     | [q,r,s],_=>exact ⟨q,r,s,rfl⟩
    obtain ⟨y0,y1,y2,m,hz,_,u0,u1,u2⟩:=Deep.trod_struct3 he hy
    rw [o0,k0] at u0
    rw [o1,k1] at u1
    rw [o2,k2] at u2
    obtain ⟨b,e0,v0⟩:=DataW.trod_bool h0 u0
    obtain ⟨g1,gn,gc,l,e1,hr,hn,hwf⟩:=Dq4 h1 hu hcu u1
    obtain ⟨z,e2,v2,_⟩:=DataW.trod_int h2 u2
    simp only [List.drop_zero,List.drop_succ_cons,List.take_succ_cons,List.take_zero,List.cons.injEq,and_true] at e0 e1 e2
    subst e0 e1 e2
    refine ⟨(b,l,z),(g1,gn,gc),⟨?_,?_,?_⟩,hr,hwf,_,_,y0.1,y1.1,y2.1,rfl,?_,?_⟩
    · have:=hcell 0 (by omega)
      simpa [Addr.add] using this
    · exact hcell 1 (by omega)
    · exact hcell 2 (by omega)
    · refine List.mem_map.2 ⟨elems[i],List.getElem_mem (by omega),?_⟩
      rw [hz]
    · have:=hr.len
      rw [List.length_map] at this
      rw [← this,hn]
   obtain ⟨l,hh,l1,l2,v⟩:=Er1 one
   refine ⟨some a,len,cap,l,hh,rfl,⟨by rw [Al7 (by omega),l1],by omega,fun k hk=>⟨a,rfl,?_⟩⟩,by simp [Bp7,hlen],l1,l2,fun i hi=>?_,fun d hd=>?_⟩
   · obtain ⟨d,g,f,y,⟨b0,b1,b2⟩,_,_⟩:=v (k/3) (by omega)
     obtain ⟨d0,d1,d2⟩:=Cp3 f y
     have aa:k=k/3*3+k%3:=by omega
     have hcase:k%3=0∨k%3=1∨k%3=2:=by omega
     have hadd:=Br8 a
     rcases hcase with h | h | h
     · rw [aa,h,Nat.add_zero,d0,b0]
     · rw [aa,h,d1,← hadd,b1];rfl
     · rw [aa,h,d2,← hadd,b2]
   · obtain ⟨d,g,f,y,_,a3,_⟩:=v i hi
     exact ⟨d,g,f,y,a3⟩
   · obtain ⟨i,hi,rfl⟩:=List.mem_iff_getElem.1 hd
     obtain ⟨d,g,f,_,_,_,a4⟩:=v i (by omega)
     rw [AC hi] at f
     cases f
     exact a4
theorem Cy4 {L:List It}:∀ {l:List Dy} {hh:List Hd},l.length=hh.length→(∀ i,i<l.length→∃ d g,l[i]?=some d∧hh[i]?=some g∧rdA (d.2.1.map (AE .u64)) g.1 g.2.1 g.2.2 w)→Ho w w L→(∀ e∈L,e.own=false) →
 ∃ M,Ho w w M∧(∀ e∈M,e.own=false)∧AllD M l hh∧∀ e,e∈L→e∈M
 | [],[],_,_,hS,hn=>⟨L,hS,hn,.nil,fun _ h=>h⟩
 | d::l,g::hh,hl,h,hS,hn=>by
   obtain ⟨M,b,a,c,f⟩:=Cy4 (l:=l) (hh:=hh) (by simpa using hl) (fun i hi=>h (i+1) (by simp;omega)) hS hn
   obtain ⟨d',g',j,k,m⟩:=h 0 (by simp)
   cases j
   cases k
   refine ⟨_,b.arg a m,Em9 rfl a,.cons (Ent.rd (List.mem_cons_self ..)) (c.mono fun e he=>AD _ he),fun e he=>AD _ (f e he)⟩
 | [],_::_,hl,_,_,_=>by simp at hl
 | _::_,[],hl,_,_,_=>by simp at hl
end
end Go.Eng
