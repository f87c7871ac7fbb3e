/-
  Memory as a list of what is held in it (blocks of a call's own, slices of its own, facts on old ones), for walks that go beside a function of plain Lean ('twin'). No condition.
-/
import Derived.Test.YtlnelldekejadaaGreatHum2
import Derived.Test.YtlnelldekejadaaGreatFl2
set_option linter.all false
open List renaming mem_cons_self→AA,mem_cons_of_mem→AB,length_map→AC,getElem?_append_left→AF,getElem?_eq_none→AG,getElem?_map→AK
open Nat renaming le_refl→AD,lt_or_ge→AE,le_of_ble_eq_true→AH,mul_one→AI,lt_of_lt_of_le→AJ
namespace Go.Eng
open Go
open Go.RowKit (Below)
structure It where
 own:Bool
 S:Nat→Prop
 A:World→Prop
 st:∀ w w':World,(∀ b,S b→w'.heap[b]?=w.heap[b]?)→A w→A w'
structure Ho (w0 w:World) (L:List It):Prop where
 below:Below w0.heap.size w0 w
 hold:∀ e∈L,e.A w
 lt:∀ e∈L,∀ b,e.S b→b<w.heap.size
 new:∀ e∈L,e.own=true→∀ b,e.S b→w0.heap.size≤b
 sep:L.Pairwise fun x y=>x.own=true∨y.own=true→∀ b,x.S b → ¬ y.S b
def Ent (L:List It) (A:World→Prop):Prop:=∀ w:World,(∀ e,e∈L→e.A w)→A w
theorem Ent.now {L L':List It} {A:World→Prop} {w0 w:World} (h:Ent L A) (hL:∀ e,e∈L→e∈L') (hS:Ho w0 w L'):A w:=h w fun e he=>hS.hold e (hL e he)
theorem Ent.mono {L L':List It} {A:World→Prop} (h:Ent L A) (hL:∀ e,e∈L→e∈L'):Ent L' A:=fun w k=>h w fun e he=>k e (hL e he)
theorem Ent.imp {L:List It} {A B:World→Prop} (h:Ent L A) (k:∀ w,A w→B w):Ent L B:=fun w q=>k w (h w q)
theorem Ent.of {L:List It} {e:It} (h:e∈L):Ent L e.A:=fun _ k=>k e h
theorem Aa5 {L L':List It} {x:It} (hx:x∈L') (h:∀ e,e∈L→e∈L'):∀ e,e∈x::L→e∈L':=by
 intro e he
 rcases List.mem_cons.1 he with rfl | he
 · exact hx
 · exact h e he
theorem Ho.same {w0 w w':World} {L:List It} (h:Ho w0 w L) (hb:Below w0.heap.size w w') (hk:∀ e∈L,∀ b,e.S b→w'.heap[b]?=w.heap[b]?):Ho w0 w' L:=
 ⟨h.below.trans hb,fun e he=>e.st w w' (hk e he) (h.hold e he),fun e he b hS=>AJ (h.lt e he b hS) hb.size,h.new,h.sep⟩
theorem Ho.later {w0 w w':World} {L:List It} (h:Ho w0 w L) (hb:Below w.heap.size w w'):Ho w0 w' L:=
 h.same (hb.mono h.below.size) fun e he b hS=>hb.block b (h.lt e he b hS)
theorem Ho.next {w0 w w':World} {L:List It} {M:List (Nat×Array Value×Nat)} (h:Ho w0 w L) (k:St w w' M):Ho w0 w' L:=h.later k.below
theorem Ho.drew {w0 w:World} {L:List It} (h:Ho w0 w L) (d:Nat):Ho w0 (w.drewN d) L:=h.later ⟨rfl,rfl,rfl,AD _,fun _ _=>rfl⟩
theorem Ho.put {w0 w w':World} {B:List It} {x y:It} (h:Ho w0 w (x::B)) (hx:x.own=true) (hb:Below w0.heap.size w w')
 (hk:∀ b,b<w.heap.size → ¬ x.S b→w'.heap[b]?=w.heap[b]?) (hA:y.A w') (hlt:∀ b,y.S b→b<w'.heap.size) (hS:∀ b,y.S b→x.S b∨w.heap.size≤b):Ho w0 w' (y::B):=by
 have hsep:=List.pairwise_cons.1 h.sep
 refine ⟨h.below.trans hb,fun e he=>?_,fun e he b hSb=>?_,fun e he ho b hSb=>?_,?_⟩
 · rcases List.mem_cons.1 he with rfl | he
   · exact hA
   · refine e.st w w' (fun b hSb=>hk b (h.lt e (AB _ he) b hSb) fun hx'=>hsep.1 e he (.inl hx) b hx' hSb) (h.hold e (AB _ he))
 · rcases List.mem_cons.1 he with rfl | he
   · exact hlt b hSb
   · exact AJ (h.lt e (AB _ he) b hSb) hb.size
 · rcases List.mem_cons.1 he with rfl | he
   · rcases hS b hSb with d | d
     · exact h.new x (AA ..) hx b d
     · exact Nat.le_trans h.below.size d
   · exact h.new e (AB _ he) ho b hSb
 · refine List.pairwise_cons.2 ⟨fun e he _ b hy he'=>?_,hsep.2⟩
   rcases hS b hy with d | d
   · exact hsep.1 e he (.inl hx) b d he'
   · have:=h.lt e (AB _ he) b he'
     omega
theorem Ho.more {w0 w w':World} {B:List It} {y:It} (h:Ho w0 w B) (hb:Below w.heap.size w w') (hA:y.A w') (hlt:∀ b,y.S b→b<w'.heap.size) (hS:∀ b,y.S b→w.heap.size≤b):Ho w0 w' (y::B):=by
 have h':=h.later hb
 refine ⟨h'.below,fun e he=>?_,fun e he b hSb=>?_,fun e he ho b hSb=>?_,?_⟩
 · rcases List.mem_cons.1 he with rfl | he
   · exact hA
   · exact h'.hold e he
 · rcases List.mem_cons.1 he with rfl | he
   · exact hlt b hSb
   · exact h'.lt e he b hSb
 · rcases List.mem_cons.1 he with rfl | he
   · exact Nat.le_trans h.below.size (hS b hSb)
   · exact h'.new e he ho b hSb
 · refine List.pairwise_cons.2 ⟨fun e he _ b hy he'=>?_,h'.sep⟩
   have:=h.lt e he b he'
   have:=hS b hy
   omega
theorem Ho.void {w0 w:World} {B:List It} {y:It} (h:Ho w0 w B) (hA:y.A w) (hS:∀ b,¬ y.S b):Ho w0 w (y::B):=
 h.more (Below.refl _ _) hA (fun b hb=>absurd hb (hS b)) fun b hb=>absurd hb (hS b)
theorem Ho.perm {w0 w:World} {L L':List It} (h:Ho w0 w L) (hp:L.Perm L'):Ho w0 w L':=
 ⟨h.below,fun e he=>h.hold e (hp.mem_iff.2 he),fun e he=>h.lt e (hp.mem_iff.2 he),fun e he=>h.new e (hp.mem_iff.2 he),
  (List.Perm.pairwise_iff (fun {x y} hxy ho b hb hb'=>hxy ho.symm b hb' hb) hp).1 h.sep⟩
theorem Ho.drop {w0 w:World} {x:It} {B:List It} (h:Ho w0 w (x::B)):Ho w0 w B:=
 ⟨h.below,fun e he=>h.hold e (AB _ he),fun e he=>h.lt e (AB _ he),fun e he=>h.new e (AB _ he),(List.pairwise_cons.1 h.sep).2⟩
theorem Ho.sub {w0 w:World} {L M:List It} (h:Ho w0 w L) (hs:M.Sublist L):Ho w0 w M:=
 ⟨h.below,fun e he=>h.hold e (hs.subset he),fun e he=>h.lt e (hs.subset he),fun e he=>h.new e (hs.subset he),h.sep.sublist hs⟩
def Dg5:List It→Nat→Option (It×List It)
 | [],_=>none
 | x::A,0=>some (x,A)
 | x::A,k+1=>match Dg5 A k with
   | some (y,B)=>some (y,x::B)
   | none=>none
theorem Bl0:∀ {A:List It} {k:Nat} {y:It} {B:List It},Dg5 A k=some (y,B)→A.Perm (y::B)
 | [],_,_,_,h=>by simp [Dg5] at h
 | x::A,0,y,B,h=>by simp [Dg5] at h;obtain ⟨rfl,rfl⟩:=h;exact .refl _
 | x::A,k+1,y,B,h=>by
   simp only [Dg5] at h
   split at h
   · rename_i z C hz
     simp at h;obtain ⟨rfl,rfl⟩:=h
     exact ((Bl0 hz).cons x).trans (.swap _ _ _)
   · cases h
def Cj6:List It→List Nat→Option (List It)
 | _,[]=>some []
 | A,k::ks=>match Dg5 A k with
   | some (y,B)=>match Cj6 B ks with
     | some C=>some (y::C)
     | none=>none
   | none=>none
theorem Dz1 {w0 w:World} {R:List It}:∀ {ks:List Nat} {A C:List It},Cj6 A ks=some C→Ho w0 w (A++R)→Ho w0 w (C++R)
 | [],A,C,h,hS=>by simp [Cj6] at h;subst h;exact hS.sub (List.sublist_append_right A R)
 | k::ks,A,C,h,hS=>by
   simp only [Cj6] at h
   split at h
   · rename_i y B hy
     split at h
     · rename_i D hD
       simp at h;subst h
       have b:Ho w0 w (y::(B++R)):=hS.perm ((Bl0 hy).append_right R)
       have hsep:=List.pairwise_cons.1 b.sep
       have d:=Dz1 hD b.drop
       have hsub:∀ e,e∈D++R→e∈B++R:=by
        intro e he
        rcases List.mem_append.1 he with he | he
        · exact List.mem_append_left _ (pickAt_mem hD e he)
        · exact List.mem_append_right _ he
       refine ⟨b.below,fun e he=>?_,fun e he=>?_,fun e he=>?_,List.pairwise_cons.2 ⟨fun e he=>hsep.1 e (hsub e he),d.sep⟩⟩
       · rcases List.mem_cons.1 he with rfl | he
         · exact b.hold _ (AA ..)
         · exact d.hold e he
       · rcases List.mem_cons.1 he with rfl | he
         · exact b.lt _ (AA ..)
         · exact d.lt e he
       · rcases List.mem_cons.1 he with rfl | he
         · exact b.new _ (AA ..)
         · exact d.new e he
     · cases h
   · cases h
where
 pickAt_mem:∀ {ks:List Nat} {A C:List It},Cj6 A ks=some C→∀ e,e∈C→e∈A
  | [],A,C,h,e,he=>by simp [Cj6] at h;subst h;cases he
  | k::ks,A,C,h,e,he=>by
    simp only [Cj6] at h
    split at h
    · rename_i y B hy
      split at h
      · rename_i D hD
        simp at h;subst h
        rcases List.mem_cons.1 he with rfl | he
        · exact (Bl0 hy).mem_iff.2 (AA ..)
        · exact (Bl0 hy).mem_iff.2 (AB _ (pickAt_mem hD e he))
      · cases h
    · cases h
theorem Ho.pick {w0 w:World} {A R C:List It} (ks:List Nat) (hS:Ho w0 w (A++R)) (h:Cj6 A ks=some C):Ho w0 w (C++R):=Dz1 h hS
def cl (r:Nat) (c:List Value) (t:Nat):It:=⟨true,(· = r),fun w=>w.heap[r]?=some (.cells c.toArray t (0,0)),fun w w' h hA=>by rw [h r rfl];exact hA⟩
theorem Dk9 {r:Nat} {c:List Value} {t:Nat} {w:World} (h:(cl r c t).A w) (i:Nat):w.cell? ⟨r,i,none⟩=c[i]?:=by
 have h':w.heap[r]?=some (.cells c.toArray t (0,0)):=h
 simp only [World.cell?,h']
 simp
theorem Ge8 {w:World} {r:Nat} {c:List Value} {t:Nat} (h:(cl r c t).A w):r<w.heap.size:=by
 have h':w.heap[r]?=some (.cells c.toArray t (0,0)):=h
 rcases AE r w.heap.size with b | b
 · exact b
 · rw [Array.getElem?_eq_none b] at h';cases h'
theorem Ho.cel {w0 w:World} {L:List It} {r:Nat} {c:List Value} {t:Nat} (hS:Ho w0 w L) (hm:cl r c t∈L) {i:Nat} {v:Value} (h:c[i]?=some v):w.cell? ⟨r,i,none⟩=some v:=by
 rw [Dk9 (hS.hold _ hm),h]
theorem Ho.alloc {w0 w:World} {L:List It} (hS:Ho w0 w L) (c:Array Value) (t:Nat):Ho w0 (w.alloc (.cells c t)) (cl w.heap.size c.toList t::L):=by
 refine hS.more ((Below.refl _ _).alloc (AD _) _) ?_ (fun b hb=>?_) fun b hb=>?_
 · show (w.heap.push _)[w.heap.size]?=_
   simp
 · have hb':b=w.heap.size:=hb
   subst hb'
   show w.heap.size<(w.heap.push _).size
   simp
 · have hb':b=w.heap.size:=hb
   omega
section
variable {w0 w:World} {L:List It}
theorem Ab2 {c:Array Value} {t:Nat} {K:Addr→World→Prop} (hS:Ho w0 w L) (hk:∀ (r:Nat) (w':World),Ho w0 w' (cl r c.toList t::L)→K ⟨r,0,none⟩ w'):Ac8 c t w K:=hk _ _ (hS.alloc c t)
theorem Aa7 {K:World→Prop} (hS:Ho w0 w L) (hk:∀ w':World,Ho w0 w' L→K w'):drM w K:=fun d=>hk _ (hS.drew d)
theorem Ac0 {α:Type} {a:α} {K:α→Prop} (h:K a):Ab6 (some a) K:=h
theorem Aa8 {r i t:Nat} {c:List Value} {v:Value} {a:Addr} {K:World→Prop} (hS:Ho w0 w (cl r c t::L)) (ha:a=⟨r,i,none⟩) (hi:Nat.blt i c.length=true) (hk:∀ w':World,Ho w0 w' (cl r (c.set i v) t::L)→K w'):stM a v w K:=by
 subst ha
 have hi':i<c.length:=by simpa [Nat.blt,Nat.lt_iff_add_one_le] using hi
 have hA:w.heap[r]?=some (.cells c.toArray t (0,0)):=hS.hold _ (AA ..)
 have hr:r<w.heap.size:=Ge8 (hS.hold _ (AA ..))
 have hn:w0.heap.size≤r:=hS.new _ (AA ..) rfl r rfl
 refine ⟨⟨⟨c[i],?_⟩,?_⟩,hk _ ?_⟩
 · rw [Dk9 (hS.hold _ (AA ..))];simp [hi']
 · simp [World.frozen?,hA]
 · refine hS.put rfl ((Below.refl _ _).setCell hn v) (fun b hb hne=>Below.heap_setCell _ _ _ _ hne) ?_ (fun b hb=>?_) fun b hb => .inl hb
   · show (w.setCell ⟨r,i,none⟩ v).heap[r]?=_
     simp only [World.setCell,Array.getElem?_modify,hA]
     simp
   · have hb':b=r:=hb
     subst hb'
     simpa [World.setCell] using hr
end
end Go.Eng
/-
  Slices beside lists of plain Lean: what is read, what is of a call's own, each step of a walk. No condition.
-/
namespace Go.Eng
open Go
open Go.RowKit (Below)
theorem Br8 (a:Addr) (i j:Nat):(a.add i).add j=a.add (i+j):=by
 unfold Addr.add
 obtain ⟨b,o,s⟩:=a
 by_cases hi:i=0<;>by_cases hj:j=0<;>simp_all<;>omega
structure rdA (vs:List Value) (a:Option Addr) (n c:Nat) (w:World):Prop where
 len:n=vs.length
 cap:n≤c
 at_:∀ i,i<n→∃ x,a=some x∧w.cell? (x.add i)=vs[i]?
theorem rdA.lt {vs:List Value} {a:Option Addr} {n c:Nat} {w:World} (h:rdA vs a n c w) {x:Addr} (hx:a=some x) (hn:vs ≠ []):x.block<w.heap.size:=by
 have b:0<n:=by rw [h.len];exact List.length_pos_iff.2 hn
 obtain ⟨y,hy,hc⟩:=h.at_ 0 b
 rw [hx] at hy;cases hy
 rw [add_zero'] at hc
 have:0<vs.length:=by rw [← h.len];exact b
 rw [List.getElem?_eq_getElem this] at hc
 exact World.block_lt_of_cell? _ _ hc
def rd (vs:List Value) (a:Option Addr) (n c:Nat):It:=
 ⟨false,fun b=>vs ≠ []∧∃ x,a=some x∧x.block=b,rdA vs a n c,fun w w' hw h=>⟨h.len,h.cap,fun i hi=>by
  obtain ⟨x,hx,hc⟩:=h.at_ i hi
  refine ⟨x,hx,?_⟩
  have hne:vs ≠ []:=by intro e;have:=h.len;subst e;simp at this;omega
  rw [← hc]
  have hb:(x.add i).block=x.block:=by unfold Addr.add;split<;>rfl
  exact World.cell?_of_block (w:=w) (by rw [hb];exact hw _ ⟨hne,x,hx,rfl⟩)⟩⟩
def slA (a:Option Addr) (n c:Nat) (vs:List Value) (t:Nat) (w:World):Prop:=
 n=vs.length∧((a=none∧c=0∧vs = [])∨∃ (r:Nat) (z:List Value),a=some ⟨r,0,none⟩∧w.heap[r]?=some (.cells (vs++z).toArray t (0,0))∧vs.length+z.length=c)
def sl (a:Option Addr) (n c:Nat) (vs:List Value) (t:Nat):It:=
 ⟨true,fun b=>∃ x,a=some x∧x.block=b,slA a n c vs t,fun w w' hw h=>⟨h.1,by
  rcases h.2 with h | ⟨r,z,ha,hr,hz⟩
  · exact .inl h
  · exact .inr ⟨r,z,ha,by rw [hw r ⟨_,ha,rfl⟩];exact hr,hz⟩⟩⟩
theorem slA.rd {a:Option Addr} {n c:Nat} {vs:List Value} {t:Nat} {w:World} (h:slA a n c vs t w):rdA vs a n c w:=by
 obtain ⟨hn,⟨rfl,rfl,rfl⟩ | ⟨r,z,rfl,hr,hc⟩⟩:=h
 · refine ⟨hn,by simp [hn],fun i hi=>by rw [hn] at hi;simp at hi⟩
 · refine ⟨hn,by omega,fun i hi=>⟨_,rfl,?_⟩⟩
   rw [Cg7]
   simp only [World.cell?,hr]
   simp [AF,hn ▸ hi]
theorem Ent.sl {L:List It} {a:Option Addr} {n c:Nat} {vs:List Value} {t:Nat} (h:Go.Eng.sl a n c vs t∈L):Ent L (rdA vs a n c):=(Ent.of h).imp fun _ k=>slA.rd k
theorem Ent.rd {L:List It} {a:Option Addr} {n c:Nat} {vs:List Value} (h:Go.Eng.rd vs a n c∈L):Ent L (rdA vs a n c):=Ent.of h
theorem Ho.start (w:World):Ho w w []:=⟨Below.refl _ _,(fun _ h=>by cases h),(fun _ h=>by cases h),(fun _ h=>by cases h),List.Pairwise.nil⟩
theorem Ho.arg {w:World} {L:List It} {a:Option Addr} {n c:Nat} {vs:List Value} (h:Ho w w L) (hn:∀ e∈L,e.own=false) (hr:rdA vs a n c w):Ho w w (rd vs a n c::L):=by
 refine ⟨h.below,fun e he=>?_,fun e he b hb=>?_,fun e he ho=>?_,List.pairwise_cons.2 ⟨fun e he ho=>?_,h.sep⟩⟩
 · rcases List.mem_cons.1 he with rfl | he
   · exact hr
   · exact h.hold e he
 · rcases List.mem_cons.1 he with rfl | he
   · obtain ⟨hne,x,hx,rfl⟩:=hb
     exact hr.lt hx hne
   · exact h.lt e he b hb
 · rcases List.mem_cons.1 he with rfl | he
   · cases ho
   · rw [hn e he] at ho;cases ho
 · rw [hn e he] at ho
   rcases ho with ho | ho<;>cases ho
theorem bnd {α β:Type} {x:Option α} {f:α→Option β} {r:β} (h:x.bind f=some r):∃ a,x=some a∧f a=some r:=by
 cases x with
 | none=>cases h
 | some a=>exact ⟨a,rfl,h⟩
theorem Aa0 {α:Type} {a b:α} (h:some a=some b):a=b:=Option.some.inj h
def atI {α:Type} (l:List α) (i:Int):Option α:=if 0≤i then l[i.toNat]? else none
def mkL {α:Type} (d:α) (l c:Int):Option (List α):=if 0≤l∧l≤c∧c≤1099511627776 then some (List.replicate l.toNat d) else none
def Dp2 {α:Type} (l m:List α):Option (List α):=if l.length+m.length≤4294967296 then some (l++m) else none
def Cd8 {α:Type} (l:List α) (lo hi:Int):Option (List α):=if 0≤lo∧lo≤hi∧hi.toNat≤l.length then some ((l.drop lo.toNat).take (hi.toNat-lo.toNat)) else none
def nz (b:Int):Option Unit:=if b≠0 then some () else none
def nn (b:Int):Option Unit:=if 0≤b then some () else none
def Af5 {τ ω:Type} (b:τ→Option (τ⊕ω)) (n:Nat):τ→Option ω:=
 Nat.rec (fun _=>none) (fun _ ih s=>match b s with
  | none=>none
  | some (.inl s')=>ih s'
  | some (.inr o)=>some o) n
def FU:Nat:=18446744073709551616
theorem Av3 {τ ω:Type} (b:τ→Option (τ⊕ω)) (n:Nat) (s:τ):Af5 b (n+1) s=(match b s with
 | none=>none
 | some (.inl s')=>Af5 b n s'
 | some (.inr o)=>some o):=rfl
theorem Ab4 {σ τ ω:Type} {body:σ→(σ→World→Prop)→World→Prop} {b:τ→Option (τ⊕ω)} {o:ω} (R:σ→World→τ→Prop)
 (hb:∀ (s:σ) (w:World) (t:τ) (X:σ→World→Prop) (q:τ⊕ω),R s w t→b t=some q→(∀ t',q = .inl t'→∀ s' w',R s' w' t'→X s' w')→(∀ o',q = .inr o'→o'=o)→body s X w)
 {n:Nat} {d:τ} {s0:σ} {w:World} (h:Af5 b n d=some o) (e:R s0 w d):Ac3 body s0 w:=by
 intro X hX
 induction n generalizing d s0 w with
 | zero=>cases h
 | succ n ih=>
   rw [Av3] at h
   cases hq:b d with
   | none=>rw [hq] at h;cases h
   | some q=>
     rw [hq] at h
     refine hX _ _ (hb _ _ _ X q e hq (fun t' ht' s' w' hR=>?_) (fun o' ho'=>?_))
     · subst ht';exact ih h hR
     · subst ho';exact Option.some.inj h
theorem Du6 {τ ω:Type} {b:τ→Option (τ⊕ω)} (I:τ→Prop) (μ:τ→Nat) (Q:ω→Prop)
 (h:∀ s,I s→(∃ s',b s=some (.inl s')∧I s'∧μ s'<μ s)∨(∃ o,b s=some (.inr o)∧Q o)) :
 ∀ (n:Nat) (s:τ),I s→μ s<n→∃ o,Af5 b n s=some o∧Q o
 | 0,s,_,hn=>by omega
 | n+1,s,hs,hn=>by
   rw [Av3]
   rcases h s hs with ⟨s',d,e,f⟩ | ⟨o,d,e⟩
   · rw [d];exact Du6 I μ Q h n s' e (by omega)
   · rw [d];exact ⟨o,rfl,e⟩
theorem Aa4 {ρ:Type} {c:Bool} {A B:Prop} {o A' B':Option ρ} (h:cond c A' B'=o) (b:c=true→A'=o→A) (d:c=false→B'=o→B):cond c A B:=by
 cases c
 · exact d rfl h
 · exact b rfl h
section
variable {α:Type} {ws:List α} {wf:List Nat} {i:Int} {enc:α→Value} {a:Option Addr} {n c:Nat} {w w0:World} {L:List It}
theorem atE {v:α} (h:atI ws i=some v):ws[i.toNat]?=some v∧0≤i∧i.toNat<ws.length:=by
 unfold atI at h
 split at h
 · rename_i d
   refine ⟨h,d,?_⟩
   rcases AE i.toNat ws.length with b | b
   · exact b
   · rw [AG b] at h;cases h
 · cases h
theorem Ab8 {x:α} {b:Addr} (hr:rdA (ws.map enc) a n c w) (hb:a=some b) (hx:ws[i.toNat]?=some x):w.cell? (b.add (i.toNat*1))=some (enc x):=by
 have hl:i.toNat<ws.length:=by
  rcases AE i.toNat ws.length with d | d
  · exact d
  · rw [AG d] at hx;cases hx
 obtain ⟨y,hy,hc⟩:=hr.at_ i.toNat (by rw [hr.len,AC];exact hl)
 rw [hb] at hy;cases hy
 rw [AI,hc,AK,hx];rfl
theorem Ad6 {x:α} {K:Addr→Prop} (hr:rdA (ws.map enc) a n c w) (hx:ws[i.toNat]?=some x ) (d:0≤i) (e:i.toNat<ws.length) (hk:∀ b:Addr,a=some b→K b):(0:Int)≤i∧i<(n:Nat)∧Ab6 a K:=by
 have hn:n=ws.length:=by rw [hr.len,AC]
 refine ⟨d,by omega,?_⟩
 obtain ⟨y,hy,_⟩:=hr.at_ i.toNat (by omega)
 subst hy
 exact hk y rfl
theorem Ai1 {v:Int} (h:some (((ws.length:Nat)):Int)=some v) (hr:rdA (ws.map enc) a n c w):((n:Nat):Int)=v:=by
 rw [hr.len,AC];exact Option.some.inj h
theorem Dm9 {lo hi:Int} {l:List α} (h:Cd8 ws lo hi=some l):(ws.drop lo.toNat).take (hi.toNat-lo.toNat)=l∧0≤lo∧lo≤hi∧hi.toNat≤ws.length:=by
 unfold Cd8 at h
 split at h
 · rename_i hh
   exact ⟨Option.some.inj h,hh⟩
 · cases h
theorem rdA.sub {lo hi:Nat} (hr:rdA (ws.map enc) a n c w) (b:lo≤hi) (d:hi≤ws.length) {c':Nat} (hc:hi-lo≤c') {m:Nat} (hm:m=c):rdA (((ws.drop lo).take (hi-lo)).map enc) (Ak1 a lo m 1) (hi-lo) c' w:=by
 subst hm
 have hl:((ws.drop lo).take (hi-lo)).length=hi-lo:=by simp;omega
 have hn:n=ws.length:=by rw [hr.len,AC]
 have hc':=hr.cap
 refine ⟨by rw [AC,hl],hc,fun i hi'=>?_⟩
 obtain ⟨x,hx,hcell⟩:=hr.at_ (lo+i) (by omega)
 refine ⟨x.add lo,?_,?_⟩
 · unfold Ak1
   rw [if_neg (by omega),hx];simp
 · rw [Br8,hcell]
   simp only [AK,List.getElem?_take,List.getElem?_drop]
   rw [if_pos hi']
theorem Ent.part {lo hi:Int} (h:Ent L (rdA (ws.map enc) a n c)) (_:0≤lo) (d:lo≤hi) (b:hi.toNat≤ws.length) :
 Ent L (rdA (((ws.drop lo.toNat).take (hi.toNat-lo.toNat)).map enc) (Ak1 a lo.toNat c 1) (hi.toNat-lo.toNat) (c-lo.toNat)):=
 h.imp fun w hr=>hr.sub (by omega) b (by have:=hr.cap;have:=hr.len;rw [AC] at this;omega) rfl
theorem Ent.upto {hi:Int} (h:Ent L (rdA (ws.map enc) a n c)) (_:0≤hi) (b:hi.toNat≤ws.length) :
 Ent L (rdA (((ws.drop (0:Int).toNat).take (hi.toNat-(0:Int).toNat)).map enc) (Ak1 a 0 c 1) hi.toNat c):=
 h.imp fun w hr=>hr.sub (lo:=0) (hi:=hi.toNat) (by omega) b (by have:=hr.cap;have:=hr.len;rw [AC] at this;omega) rfl
theorem Ent.from {lo:Int} (h:Ent L (rdA (ws.map enc) a n c)) (b:0≤lo) (d:lo≤(n:Nat)) :
 Ent L (rdA (((ws.drop lo.toNat).take ((n:Int).toNat-lo.toNat)).map enc) (Ak1 a lo.toNat c 1) (n-lo.toNat) (c-lo.toNat)):=
 h.imp fun w hr=>by
  have e:=hr.len
  rw [AC] at e
  exact hr.sub (lo:=lo.toNat) (hi:=n) (by omega) (by omega) (by have:=hr.cap;omega) rfl
theorem Aw7 {y:α} {b:Addr} {t:Nat} {K:World→Prop} (hS:Ho w0 w (sl a n c (ws.map enc) t::L)) (hb:a=some b) (d:i.toNat<ws.length)
 (hk:∀ w':World,Ho w0 w' (sl a n c ((ws.set i.toNat y).map enc) t::L)→K w'):stM (b.add (i.toNat*1)) (enc y) w K:=by
 subst hb
 have hA:slA (some b) n c (ws.map enc) t w:=hS.hold _ (AA ..)
 obtain ⟨hn,⟨h,_⟩ | ⟨r,z,hr,hh,hc⟩⟩:=hA
 · cases h
 cases hr
 have hlt:r<w.heap.size:=by
  rcases AE r w.heap.size with d | d
  · exact d
  · rw [Array.getElem?_eq_none d] at hh;cases hh
 have hnew:w0.heap.size≤r:=hS.new _ (AA ..) rfl r ⟨_,rfl,rfl⟩
 rw [Cg7,AI]
 refine ⟨⟨⟨enc ws[i.toNat],?_⟩,?_⟩,hk _ ?_⟩
 · simp only [World.cell?,hh]
   simp [AF,d]
 · simp [World.frozen?,hh]
 · refine hS.put rfl ((Below.refl _ _).setCell hnew _) (fun b hb hne=>Below.heap_setCell _ _ _ _ (fun e=>hne ⟨_,rfl,e.symm⟩)) ?_ (fun b hb=>?_) fun b hb => .inl hb
   · refine ⟨by rw [hn];simp,.inr ⟨r,z,rfl,?_,by simpa using hc⟩⟩
     show (w.setCell ⟨r,i.toNat,none⟩ (enc y)).heap[r]?=_
     simp only [World.setCell,Array.getElem?_modify,hh]
     simp [List.set_append_left,d,List.map_set]
   · obtain ⟨x,hx,rfl⟩:=hb
     cases hx
     simpa [World.setCell] using hlt
theorem mkE {l c:Int} {z:α} {l':List α} (h:mkL z l c=some l'):List.replicate l.toNat z=l'∧(0≤l∧l≤c∧c≤1099511627776):=by
 unfold mkL at h
 split at h
 · rename_i hh;exact ⟨Option.some.inj h,hh⟩
 · cases h
theorem Ew9 {z:α} {l c:Int} {e bytes:Nat} {K:Addr→World→Prop} (hS:Ho w0 w L) (h:0≤l∧l≤c∧c≤1099511627776) (hb:Nat.ble bytes 256=true)
 (hk:∀ (r:Nat) (w':World),Ho w0 w' (sl (some ⟨r,0,none⟩) l.toNat c.toNat ((List.replicate l.toNat z).map enc) e::L)→K ⟨r,0,none⟩ w'):mkM e 1 bytes #[enc z] l c w K:=by
 have hb':bytes≤256:=AH hb
 refine ⟨h.1,h.2.1,h.2.2,?_,hk _ _ ?_⟩
 · have d:c*(bytes:Int)≤1099511627776*(256:Int):=Int.mul_le_mul h.2.2 (by omega) (by omega) (by omega)
   omega
 · rw [AI,Cm9]
   refine hS.more ((Below.refl _ _).alloc (AD _) _) ⟨by simp,.inr ⟨_,List.replicate (c.toNat-l.toNat) (enc z),rfl,?_,by simp;omega⟩⟩ (fun b hb=>?_) fun b hb=>?_
   · show (w.heap.push _)[w.heap.size]?=_
     have:l.toNat+(c.toNat-l.toNat)=c.toNat:=by omega
     simp [this]
   · obtain ⟨x,hx,rfl⟩:=hb
     cases hx
     show w.heap.size<(w.heap.push _).size
     simp
   · obtain ⟨x,hx,rfl⟩:=hb
     cases hx
     exact AD _
theorem Ba4 {ks:List α} {m e:Nat} {K:Addr→World→Prop} (hS:Ho w0 w L) {cs:Array Value} (hc:cs.toList=ks.map enc) (hm:ks.length=m)
 (hk:∀ (r:Nat) (w':World),Ho w0 w' (sl (some ⟨r,0,none⟩) m m (ks.map enc) e::L)→K ⟨r,0,none⟩ w'):Ac8 cs e w K:=by
 subst hm
 refine hk _ _ (hS.more ((Below.refl _ _).alloc (AD _) _) ⟨by simp,.inr ⟨_,[],rfl,?_,by simp⟩⟩ (fun b hb=>?_) fun b hb=>?_)
 · show (w.heap.push _)[w.heap.size]?=_
   have:cs=(ks.map enc ++ []).toArray:=by rw [List.append_nil,← hc]
   simp [this]
 · obtain ⟨x,hx,rfl⟩:=hb
   cases hx
   show w.heap.size<(w.heap.push _).size
   simp
 · obtain ⟨x,hx,rfl⟩:=hb
   cases hx
   exact AD _
theorem Ho.none {t:Nat} (hS:Ho w0 w L):Ho w0 w (Go.Eng.sl Option.none 0 0 (([]:List α).map enc) t::L):=
 hS.void ⟨rfl,.inl ⟨rfl,rfl,rfl⟩⟩ fun b hb=>by obtain ⟨x,hx,_⟩:=hb;cases hx
theorem Eq9 {l m l':List α} (h:Dp2 l m=some l'):l++m=l'∧l.length+m.length≤4294967296:=by
 unfold Dp2 at h
 split at h
 · rename_i hh;exact ⟨Option.some.inj h,hh⟩
 · cases h
theorem rdA.row {vs:List Value} (h:rdA vs a n c w):Dp4 w a vs:=by
 cases a with
 | none=>
   cases vs with
   | nil=>rfl
   | cons x l=>obtain ⟨y,hy,_⟩:=h.at_ 0 (by rw [h.len];simp);cases hy
 | some x=>
   intro i hi
   obtain ⟨y,hy,hc⟩:=h.at_ i (by rw [h.len];exact hi)
   cases hy
   exact hc
theorem Gc9 {ks:List α} {m c' d t:Nat} {f:Value} (hS:Ho w0 w L) (hn:n=ws.length) (hm:m=ks.length) (hc:n+m≤c') :
 Ho w0 ((w.drewN d).alloc (.cells (((ws.map enc)++(ks.map enc)).toArray++Cz6 ((c'-(n+m))*(#[f]:Array Value).size) #[f]) t)) (sl (some (nxt w)) (n+m) c' ((ws++ks).map enc) t::L):=by
 subst hn hm
 have hb:Below w.heap.size w ((w.drewN d).alloc (.cells (((ws.map enc)++(ks.map enc)).toArray++Cz6 ((c'-(ws.length+ks.length))*(#[f]:Array Value).size) #[f]) t)):=
  Below.alloc (a:=w) (w:=w.drewN d) ⟨rfl,rfl,rfl,AD _,fun _ _=>rfl⟩ (AD _) _
 refine hS.more hb ⟨by simp,.inr ⟨_,List.replicate (c'-(ws.length+ks.length)) f,rfl,?_,by simp;omega⟩⟩ (fun b hb=>?_) fun b hb=>?_
 · show ((w.drewN d).heap.push _)[w.heap.size]?=_
   have:(w.drewN d).heap.size=w.heap.size:=rfl
   have e:((ws.map enc)++(ks.map enc)).toArray++Cz6 ((c'-(ws.length+ks.length))*(#[f]:Array Value).size) #[f]=((ws++ks).map enc++List.replicate (c'-(ws.length+ks.length)) f).toArray:=by rw [Cm9];simp
   rw [← this,e]
   simp
 · obtain ⟨x,hx,rfl⟩:=hb
   cases hx
   show w.heap.size<((w.drewN d).heap.push _).size
   simp
 · obtain ⟨x,hx,rfl⟩:=hb
   cases hx
   exact AD _
theorem Bv8 {ks:List α} {b:Option Addr} {m cb t bytes:Nat} {h:Value} {K:Option Addr→Nat→Nat→World→Prop} (hS:Ho w0 w (sl a n c (ws.map enc) t::L)) (hs:ws.length+ks.length≤4294967296) (hk:rdA (ks.map enc) b m cb w)
 (hv:∀ y,Cu7 (enc y)=true) (hbt:Nat.ble bytes 4096=true)
 (hK:∀ (a':Option Addr) (c':Nat) (w':World),Ho w0 w' (sl a' (n+m) c' ((ws++ks).map enc) t::L)→K a' (n+m) c' w'):Bn8 t 1 bytes #[h] a n c b m w K:=by
 have hA:slA a n c (ws.map enc) t w:=hS.hold _ (AA ..)
 have hm:m=ks.length:=by rw [hk.len,AC]
 have hn:n=ws.length:=by rw [hA.1,AC]
 have hbt':bytes≤4096:=AH hbt
 refine ⟨ks.map enc,by simp [hm],hk.row,fun hle=>?_,fun hlt=>⟨by omega,?_,hbt',ws.map enc,by simp [hn],hA.rd.row,fun c' d hc'=>?_⟩⟩
 · obtain ⟨_,⟨rfl,rfl,he⟩ | ⟨r,z,rfl,hr,hc⟩⟩:=hA
   · have f:ws = []:=by simpa using he
     subst f
     have j:ks = []:=List.eq_nil_of_length_eq_zero (by simp at hn;omega)
     subst j
     have e:n+m=0:=by simp at hn hm;omega
     refine hK _ _ _ ?_
     rw [e]
     exact hS.drop.none
   · have hz:ks.length≤z.length:=by simp at hc;omega
     have hlt:r<w.heap.size:=by
      rcases AE r w.heap.size with f | f
      · exact f
      · rw [Array.getElem?_eq_none f] at hr;cases hr
     have hnew:w0.heap.size≤r:=hS.new _ (AA ..) rfl r ⟨_,rfl,rfl⟩
     have hst:St w0 w [(r,(ws.map enc++z).toArray,t)]:=⟨hS.below,fun e he=>by
      simp only [List.mem_singleton] at he;subst he;exact ⟨hnew,hr⟩,List.pairwise_singleton _ _⟩
     have ha:(⟨r,0,none⟩:Addr).add (n*1)=⟨r,n,none⟩:=by rw [AI,Cg7]
     obtain ⟨l,g⟩:=Dv6 (A:=[]) (B:=[]) (vs:=ks.map enc) (o:=n) (i:=0) hst (by simp;omega) (by intro v hv';obtain ⟨y,_,rfl⟩:=List.mem_map.1 hv';exact hv y)
     have e:n=(ws.map enc).length:=by simp [hn]
     show Fx2 (ks.map enc) ((⟨r,0,none⟩:Addr).add (n*1)) 0 w∧K _ _ _ (Az9 (ks.map enc) ((⟨r,0,none⟩:Addr).add (n*1)) 0 w)
     rw [ha]
     refine ⟨l,hK _ _ _ ?_⟩
     rw [show n+0=n from rfl,e,Bh0 _ _ _ (by simpa using hz),← e] at g
     have hown:=(g.own _ (List.mem_singleton.2 rfl)).2
     have hbel:=setRow_other (ks.map enc) r n 0 w
     refine hS.put rfl ⟨hbel.1,hbel.2.1,hbel.2.2.1,by rw [hbel.2.2.2.1];exact AD _,fun k hk'=>hbel.2.2.2.2 k (by omega)⟩ (fun b hb hne=>hbel.2.2.2.2 b (fun e=>hne ⟨_,rfl,e.symm⟩)) ⟨by simp [hn,hm],.inr ⟨r,z.drop ks.length,rfl,?_,by simp at hc ⊢;omega⟩⟩ (fun b hb=>?_) fun b hb => .inl hb
     · rw [hown];simp
     · obtain ⟨x,hx,rfl⟩:=hb
       cases hx
       rw [hbel.2.2.2.1];exact hlt
 · have:(n+m)*bytes≤4294967296*4096:=Nat.mul_le_mul (by omega) hbt'
   omega
 · exact hK _ _ _ (Gc9 hS.drop hn hm hc')
where
 setRow_other:∀ (vs:List Value) (r o i:Nat) (w:World),(Az9 vs ⟨r,o,none⟩ i w).os=w.os∧(Az9 vs ⟨r,o,none⟩ i w).tape=w.tape∧(Az9 vs ⟨r,o,none⟩ i w).output=w.output∧(Az9 vs ⟨r,o,none⟩ i w).heap.size=w.heap.size ∧
  ∀ k,k≠r→(Az9 vs ⟨r,o,none⟩ i w).heap[k]?=w.heap[k]?
  | [],r,o,i,w=>⟨rfl,rfl,rfl,rfl,fun _ _=>rfl⟩
  | v::vs,r,o,i,w=>by
    have ih:=setRow_other vs r o (i+1) (w.setCell ((⟨r,o,none⟩:Addr).add i) v)
    have hb:((⟨r,o,none⟩:Addr).add i).block=r:=by unfold Addr.add;split<;>rfl
    refine ⟨ih.1,ih.2.1,ih.2.2.1,ih.2.2.2.1.trans (by simp [World.setCell]),fun k hk=>(ih.2.2.2.2 k hk).trans (Below.heap_setCell _ _ _ _ (by rw [hb];exact hk))⟩
end
section
variable {w w0:World} {L:List It} {x y v:Nat} {K:Nat→World→Prop}
end
theorem Fo2 {b:Int} {u:Unit} (h:nz b=some u):b≠0:=by
 unfold nz at h
 split at h
 · assumption
 · cases h
theorem Gr2 {b:Int} {u:Unit} (h:nn b=some u):0≤b:=by
 unfold nn at h
 split at h
 · assumption
 · cases h
def vd:It:=⟨false,fun _=>False,fun _=>True,fun _ _ _ _=>trivial⟩
theorem Ho.voidItem {w0 w:World} {L:List It} (hS:Ho w0 w L):Ho w0 w (vd::L):=hS.void trivial fun _ h=>h
theorem Ent.nil {α:Type} {enc:α→Value} (L:List It):Ent L (rdA (([]:List α).map enc) none 0 0):=fun _ _=>⟨rfl,AD _,fun i hi=>by omega⟩
theorem Ent.cel {L L':List It} {r t i:Nat} {c:List Value} {w0 w:World} {v:Value} (h:Ent L (cl r c t).A) (hL:∀ e,e∈L→e∈L') (hS:Ho w0 w L') (hv:c[i]?=some v):w.cell? ⟨r,i,none⟩=some v:=by
 rw [Dk9 (h.now hL hS),hv]
theorem Av1 {α:Type} {enc:α→Value} {ws:List α} {a:Option Addr} {n c:Nat} {w:World} {i:Int} {x:α} {K:Prop} (hr:rdA (ws.map enc) a n c w) (_:ws[i.toNat]?=some x) (b:0≤i) (d:i.toNat<ws.length) (hk:K):(0:Int)≤i∧i<(n:Nat)∧K:=by
 have hn:n=ws.length:=by rw [hr.len,AC]
 exact ⟨b,by omega,hk⟩
theorem rdA.hiCap {α:Type} {enc:α→Value} {ws:List α} {a:Option Addr} {n c:Nat} {w:World} {hi:Int} (hr:rdA (ws.map enc) a n c w) (h:hi.toNat≤ws.length):hi≤(c:Nat):=by
 have hn:n=ws.length:=by rw [hr.len,AC]
 have:=hr.cap
 omega
abbrev EF (L:List It) (l:List Nat) (a:Option Addr) (n c:Nat):Prop:=Ent L (rdA (List.map (Value.float .f64) l) a n c)
abbrev EU (L:List It) (l:List Int) (a:Option Addr) (n c:Nat):Prop:=Ent L (rdA (List.map (Value.int .u64) l) a n c)
abbrev EW (L:List It) (l:List Int) (a:Option Addr) (n c:Nat):Prop:=Ent L (rdA (List.map (Value.int .u32) l) a n c)
theorem Ent.nw {L : List It} {A : World → Prop} {w0 w : World} (h : Ent L A) (hS : Ho w0 w L) : A w := h.now (fun _ h => h) hS
end Go.Eng
