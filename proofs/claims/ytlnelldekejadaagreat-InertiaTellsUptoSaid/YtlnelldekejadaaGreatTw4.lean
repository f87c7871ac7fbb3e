/-
  Places in lists, by number; printed. No condition.
-/
import Derived.Test.YtlnelldekejadaaGreatTw2
set_option linter.all false
open List renaming mem_cons_of_mem→AA,mem_cons_self→AB
namespace Go.Eng
open Go
theorem mp0 {α:Type} {x:α} {L:List α}:x∈x::L := .head _
theorem mp1 {α:Type} {x y1:α} {L:List α}:x∈y1::x::L := .tail _ (.head _)
theorem tl1 {L:List It} {y1:It}:∀ e,e∈L→e∈y1::L:=fun _ h => .tail _ (h)
theorem ro1 {w0 w:World} {L:List It} {y1 x:It} (h:Ho w0 w (y1::x::L)):Ho w0 w (x::y1::L):=h.pick (A:=[_,_]) [1,0] rfl
theorem mp2 {α:Type} {x y1 y2:α} {L:List α}:x∈y1::y2::x::L := .tail _ (.tail _ (.head _))
theorem tl2 {L:List It} {y1 y2:It}:∀ e,e∈L→e∈y1::y2::L:=fun _ h => .tail _ (.tail _ (h))
theorem ro2 {w0 w:World} {L:List It} {y1 y2 x:It} (h:Ho w0 w (y1::y2::x::L)):Ho w0 w (x::y1::y2::L):=h.pick (A:=[_,_,_]) [2,0,0] rfl
theorem mp3 {α:Type} {x y1 y2 a:α} {L:List α}:x∈y1::y2::a::x::L := .tail _ (.tail _ (.tail _ (.head _)))
theorem tl3 {L:List It} {y1 y2 a:It}:∀ e,e∈L→e∈y1::y2::a::L:=fun _ h => .tail _ (.tail _ (.tail _ (h)))
theorem ro3 {w0 w:World} {L:List It} {y1 y2 a x:It} (h:Ho w0 w (y1::y2::a::x::L)):Ho w0 w (x::y1::y2::a::L):=h.pick (A:=[_,_,_,_]) [3,0,0,0] rfl
theorem mp4 {α:Type} {x y1 y2 a b:α} {L:List α}:x∈y1::y2::a::b::x::L := .tail _ (.tail _ (.tail _ (.tail _ (.head _))))
theorem tl4 {L:List It} {y1 y2 a b:It}:∀ e,e∈L→e∈y1::y2::a::b::L:=fun _ h => .tail _ (.tail _ (.tail _ (.tail _ (h))))
theorem ro4 {w0 w:World} {L:List It} {y1 y2 a b x:It} (h:Ho w0 w (y1::y2::a::b::x::L)):Ho w0 w (x::y1::y2::a::b::L):=h.pick (A:=[_,_,_,_,_]) [4,0,0,0,0] rfl
theorem mp5 {α:Type} {x y1 y2 a b c:α} {L:List α}:x∈y1::y2::a::b::c::x::L := .tail _ (.tail _ (.tail _ (.tail _ (.tail _ (.head _)))))
theorem tl5 {L:List It} {y1 y2 a b c:It}:∀ e,e∈L→e∈y1::y2::a::b::c::L:=fun _ h => .tail _ (.tail _ (.tail _ (.tail _ (.tail _ (h)))))
theorem ro5 {w0 w:World} {L:List It} {y1 y2 a b c x:It} (h:Ho w0 w (y1::y2::a::b::c::x::L)):Ho w0 w (x::y1::y2::a::b::c::L):=h.pick (A:=[_,_,_,_,_,_]) [5,0,0,0,0,0] rfl
theorem mp6 {α:Type} {x y1 y2 a b c d:α} {L:List α}:x∈y1::y2::a::b::c::d::x::L := .tail _ (.tail _ (.tail _ (.tail _ (.tail _ (.tail _ (.head _))))))
theorem tl6 {L:List It} {y1 y2 a b c d:It}:∀ e,e∈L→e∈y1::y2::a::b::c::d::L:=fun _ h => .tail _ (.tail _ (.tail _ (.tail _ (.tail _ (.tail _ (h))))))
theorem ro6 {w0 w:World} {L:List It} {y1 y2 a b c d x:It} (h:Ho w0 w (y1::y2::a::b::c::d::x::L)):Ho w0 w (x::y1::y2::a::b::c::d::L):=h.pick (A:=[_,_,_,_,_,_,_]) [6,0,0,0,0,0,0] rfl
theorem mp7 {α:Type} {x y1 y2 a b c d e:α} {L:List α}:x∈y1::y2::a::b::c::d::e::x::L := .tail _ (.tail _ (.tail _ (.tail _ (.tail _ (.tail _ (.tail _ (.head _)))))))
theorem tl7 {L:List It} {y1 y2 a b c d f:It}:∀ e,e∈L→e∈y1::y2::a::b::c::d::f::L:=fun _ h => .tail _ (.tail _ (.tail _ (.tail _ (.tail _ (.tail _ (.tail _ (h)))))))
theorem ro7 {w0 w:World} {L:List It} {y1 y2 a b c d e x:It} (h:Ho w0 w (y1::y2::a::b::c::d::e::x::L)):Ho w0 w (x::y1::y2::a::b::c::d::e::L):=h.pick (A:=[_,_,_,_,_,_,_,_]) [7,0,0,0,0,0,0,0] rfl
end Go.Eng
/-
  Lists of lists: the Ee6 in one block, each list readable by itself. No condition.
-/
namespace Go.Eng
open Go
abbrev Hd:=Option Addr×Nat×Nat
def hdV (h:Hd):Value := .slice h.1 h.2.1 h.2.2
inductive Alls {α:Type} (L:List It) (enc:α→Value):List (List α)→List Hd→Prop
 | nil:Alls L enc [] []
 | cons {l:List α} {h:Hd} {X:List (List α)} {H:List Hd}:Ent L (rdA (l.map enc) h.1 h.2.1 h.2.2)→Alls L enc X H→Alls L enc (l::X) (h::H)
section
variable {α:Type} {L L':List It} {enc:α→Value}
theorem Alls.mono {X:List (List α)} {H:List Hd} (h:Alls L enc X H) (hL:∀ e,e∈L→e∈L'):Alls L' enc X H:=by
 induction h with
 | nil=>exact .nil
 | cons h _ ih=>exact .cons (h.mono hL) ih
theorem Alls.len {X:List (List α)} {H:List Hd} (h:Alls L enc X H):X.length=H.length:=by
 induction h with
 | nil=>rfl
 | cons _ _ ih=>simp [ih]
theorem Alls.get {X:List (List α)} {H:List Hd} (h:Alls L enc X H):∀ {i:Nat} {t:List α},X[i]?=some t→∃ g,H[i]?=some g∧Ent L (rdA (t.map enc) g.1 g.2.1 g.2.2):=by
 induction h with
 | nil=>intro i t h;simp at h
 | cons h _ ih=>
   intro i t hx
   cases i with
   | zero=>simp at hx;subst hx;exact ⟨_,rfl,h⟩
   | succ i=>exact ih (by simpa using hx)
theorem Alls.atE {X:List (List α)} {H:List Hd} {i:Int} {t:List α} (h:Alls L enc X H) (hx:atI X i=some t):∃ g,H[i.toNat]?=some g∧0≤i∧i.toNat<H.length∧Ent L (rdA (t.map enc) g.1 g.2.1 g.2.2):=by
 obtain ⟨a,b,c⟩:=Go.Eng.atE hx
 obtain ⟨g,d,e⟩:=h.get a
 exact ⟨g,d,b,by rw [← h.len];exact c,e⟩
theorem Bv7 {H:List Hd} {g:Hd} {b:Addr} {a:Option Addr} {n c:Nat} {w:World} {i:Int} (hr:rdA (H.map hdV) a n c w) (hb:a=some b) (hx:H[i.toNat]?=some g):w.cell? (b.add (i.toNat*1))=some (.slice g.1 g.2.1 g.2.2):=Ab8 (enc:=hdV) hr hb hx
def both (x y:It):It:=⟨false,fun b=>x.S b∨y.S b,fun w=>x.A w∧y.A w,fun w w' hw h=>⟨x.st w w' (fun b hb=>hw b (.inl hb)) h.1,y.st w w' (fun b hb=>hw b (.inr hb)) h.2⟩⟩
theorem Ho.both {w0 w:World} {x y:It} {L:List It} (h:Ho w0 w (x::y::L)):Ho w0 w (Go.Eng.both x y::L):=by
 have a:=List.pairwise_cons.1 h.sep
 have c:=List.pairwise_cons.1 a.2
 refine ⟨h.below,fun e he=>?_,fun e he b hb=>?_,fun e he ho b hb=>?_,List.pairwise_cons.2 ⟨fun e he ho b hb he'=>?_,c.2⟩⟩
 · rcases List.mem_cons.1 he with rfl | he
   · exact ⟨h.hold x (AB ..),h.hold y (AA _ (AB ..))⟩
   · exact h.hold e (AA _ (AA _ he))
 · rcases List.mem_cons.1 he with rfl | he
   · rcases hb with hb | hb
     · exact h.lt x (AB ..) b hb
     · exact h.lt y (AA _ (AB ..)) b hb
   · exact h.lt e (AA _ (AA _ he)) b hb
 · rcases List.mem_cons.1 he with rfl | he
   · cases ho
   · exact h.new e (AA _ (AA _ he)) ho b hb
 · rcases ho with ho | ho
   · cases ho
   · rcases hb with hb | hb
     · exact a.1 e (AA _ he) (.inr ho) b hb he'
     · exact c.1 e he (.inr ho) b hb he'
theorem Ent.both {x y:It} {L:List It} {A:World→Prop} (h:Ent (x::y::L) A):Ent (Go.Eng.both x y::L) A:=fun w k=>h w fun e he=>by
 have hb:=k _ (AB ..)
 rcases List.mem_cons.1 he with rfl | he
 · exact hb.1
 · rcases List.mem_cons.1 he with rfl | he
   · exact hb.2
   · exact k e (AA _ he)
end
end Go.Eng
