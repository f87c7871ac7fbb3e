/-
  Stepping through the printed propositions: what the memory of a call's own holds ('St'), loops, places where ways meet. No condition.
-/
import Derived.Test.YtlnelldekejadaaGreatTbl
import Derived.Below
set_option linter.all false
open List renaming mem_append_right→AA,mem_cons_self→AB,mem_cons_of_mem→AC,pairwise_append→AD,mem_append_left→AE,pairwise_singleton→AG,pairwise_cons→AH
open Nat renaming le_refl→AF
open Go.Value renaming float→AI
namespace Go.Eng
open Go
open Go.RowKit (Below)
structure St (w0 w:World) (L:List (Nat×Array Value×Nat)):Prop where
 below:Below w0.heap.size w0 w
 own:∀ e∈L,w0.heap.size≤e.1∧w.heap[e.1]?=some (.cells e.2.1 e.2.2 (0,0))
 desc:L.Pairwise fun a b=>b.1≠a.1
theorem St.refl (w:World):St w w []:=⟨Below.refl _ _,(fun _ h=>by cases h),List.Pairwise.nil⟩
theorem St.lt {w0 w:World} {L:List (Nat×Array Value×Nat)} (h:St w0 w L) {e:Nat×Array Value×Nat} (he:e∈L):e.1<w.heap.size:=by
 have:=(h.own e he).2
 rcases Nat.lt_or_ge e.1 w.heap.size with h' | h'
 · exact h'
 · rw [Array.getElem?_eq_none h'] at this;cases this
theorem St.next {w0 w w':World} {L M:List (Nat×Array Value×Nat)} (h:St w0 w L) (k:St w w' M):St w0 w' (M++L):=by
 refine ⟨h.below.trans (k.below.mono h.below.size),fun e he=>?_,?_⟩
 · rcases List.mem_append.1 he with he | he
   · exact ⟨Nat.le_trans h.below.size (k.own e he).1,(k.own e he).2⟩
   · refine ⟨(h.own e he).1,?_⟩
     rw [k.below.block e.1 (h.lt he)]
     exact (h.own e he).2
 · rw [AD]
   exact ⟨k.desc,h.desc,fun a ha b hb=>Nat.ne_of_lt (Nat.lt_of_lt_of_le (h.lt hb) (k.own a ha).1)⟩
theorem St.drew {w0 w:World} {L:List (Nat×Array Value×Nat)} (h:St w0 w L) (d:Nat):St w0 (w.drewN d) L:=
 ⟨h.below.trans ⟨rfl,rfl,rfl,AF _,fun _ _=>rfl⟩,h.own,h.desc⟩
theorem St.drop {w0 w:World} {L M:List (Nat×Array Value×Nat)} (h:St w0 w L) (hs:M.Sublist L):St w0 w M:=
 ⟨h.below,fun e he=>h.own e (hs.subset he),h.desc.sublist hs⟩
theorem St.pick {w0 w:World} {L M:List (Nat×Array Value×Nat)} {e:Nat×Array Value×Nat} (h:St w0 w (M++L)) (he:e∈M):St w0 w (L ++ [e]):=by
 refine ⟨h.below,fun x hx=>?_,?_⟩
 · rcases List.mem_append.1 hx with hx | hx
   · exact h.own x (AA _ hx)
   · simp at hx;subst hx;exact h.own x (AE _ he)
 · have hd:=List.pairwise_append.1 h.desc
   exact List.pairwise_append.2 ⟨hd.2.1,AG _ _,fun a ha b hb=>by simp at hb;subst hb;exact (hd.2.2 b he a ha).symm⟩
theorem St.swap {w0 w:World} {A B:List (Nat×Array Value×Nat)} (h:St w0 w (A++B)):St w0 w (B++A):=by
 refine ⟨h.below,fun x hx=>h.own x (by simp at hx ⊢;exact hx.symm),?_⟩
 have hd:=List.pairwise_append.1 h.desc
 exact List.pairwise_append.2 ⟨hd.2.1,hd.1,fun a ha b hb=>(hd.2.2 b hb a ha).symm⟩
theorem St.only {w0 w:World} {M:List (Nat×Array Value×Nat)} {e:Nat×Array Value×Nat} (h:St w0 w M) (he:e∈M):St w0 w [e]:=
 St.pick (L:=[]) (by rw [List.append_nil];exact h) he
theorem St.nil {w0 w:World} {L:List (Nat×Array Value×Nat)} (h:St w0 w L):St w0 w []:=h.drop (List.nil_sublist _)
theorem St.alloc {w0 w:World} {L:List (Nat×Array Value×Nat)} (h:St w0 w L) (c:Array Value) (t:Nat):St w0 (w.alloc (.cells c t)) ((w.heap.size,c,t)::L):=by
 have:St w (w.alloc (.cells c t)) [(w.heap.size,c,t)]:=by
  refine ⟨(Below.refl _ _).alloc (AF _) _,fun e he=>?_,AG _ _⟩
  simp at he
  subst he
  refine ⟨AF _,?_⟩
  show (w.heap.push _)[w.heap.size]?=_
  simp
 exact h.next this
theorem St.cell {w0 w:World} {L:List (Nat×Array Value×Nat)} (h:St w0 w L) {a:Addr} {v:Value} (hc:w0.cell? a=some v):w.cell? a=some v:=by
 rw [h.below.cell (World.block_lt_of_cell? _ _ hc)];exact hc
theorem Cg7 (r i:Nat):(⟨r,0,none⟩:Addr).add i=⟨r,i,none⟩:=by
 unfold Addr.add
 split
 · subst_vars;rfl
 · simp
theorem add_zero' (a:Addr):a.add 0=a:=by simp [Addr.add]
theorem St.get {w0 w:World} {L:List (Nat×Array Value×Nat)} (h:St w0 w L) {r:Nat} {c:Array Value} {t:Nat} (he:(r,c,t)∈L) (i:Nat):w.cell? ⟨r,i,none⟩=c[i]?:=by
 have:=(h.own _ he).2
 simp only [World.cell?,this]
 rfl
theorem St.fz {w0 w:World} {L:List (Nat×Array Value×Nat)} (h:St w0 w L) {r:Nat} {c:Array Value} {t:Nat} (he:(r,c,t)∈L) (i:Nat):w.frozen? ⟨r,i,none⟩=false:=by
 have:=(h.own _ he).2
 simp [World.frozen?,this]
theorem St.ok {w0 w:World} {L:List (Nat×Array Value×Nat)} (h:St w0 w L) {r:Nat} {c:Array Value} {t:Nat} (he:(r,c,t)∈L) {i:Nat} (hi:i<c.size):Gv2 w ⟨r,i,none⟩:=
 ⟨⟨c[i],by rw [h.get he];simp [hi]⟩,h.fz he i⟩
theorem St.set {w0 w:World} {A B:List (Nat×Array Value×Nat)} {r:Nat} {c:Array Value} {t:Nat} (h:St w0 w (A++(r,c,t)::B)) (i:Nat) (v:Value) :
 St w0 (w.setCell ⟨r,i,none⟩ v) (A++(r,c.setIfInBounds i v,t)::B):=by
 have hmem:(r,c,t)∈A++(r,c,t)::B:=AA _ (AB ..)
 have hr:=(h.own _ hmem).1
 have hd:=h.desc
 rw [AD] at hd
 obtain ⟨hA,hB,hAB⟩:=hd
 rw [AH] at hB
 refine ⟨h.below.setCell hr v,fun e he=>?_,?_⟩
 · rcases List.mem_append.1 he with he | he
   · have hne:e.1≠r:=by have:=hAB e he _ (AB ..);exact this.symm
     refine ⟨(h.own e (AE _ he)).1,?_⟩
     rw [Below.heap_setCell _ _ _ _ hne]
     exact (h.own e (AE _ he)).2
   · rcases List.mem_cons.1 he with rfl | he
     · refine ⟨hr,?_⟩
       have:=(h.own _ hmem).2
       simp only [World.setCell,Array.getElem?_modify,this]
       simp
     · have hne:e.1≠r:=hB.1 e he
       refine ⟨(h.own e (AA _ (AC _ he))).1,?_⟩
       rw [Below.heap_setCell _ _ _ _ hne]
       exact (h.own e (AA _ (AC _ he))).2
 · rw [AD,AH]
   refine ⟨hA,⟨hB.1,hB.2⟩,fun a ha b hb=>?_⟩
   rcases List.mem_cons.1 hb with rfl | hb
   · exact hAB a ha (r,c,t) (AB ..)
   · exact hAB a ha b (AC _ hb)
section
variable {w0 w:World} {L:List (Nat×Array Value×Nat)}
theorem Gz1 (A:List (Nat×Array Value×Nat)) {B:List (Nat×Array Value×Nat)} {r:Nat} {c:Array Value} {t i:Nat} {v:Value} {a:Addr} {k:World→Prop} (h:St w0 w (A++(r,c,t)::B)) (ha:a=⟨r,i,none⟩) (hi:i<c.size)
 (hk:∀ w',St w0 w' (A++(r,c.setIfInBounds i v,t)::B)→k w'):stM a v w k:=by
 subst ha
 exact ⟨h.ok (AA _ (AB ..)) hi,hk _ (h.set i v)⟩
theorem Cz1 {σ:Type} {body:σ→(σ→World→Prop)→World→Prop} {s0:σ} (I:σ→World→Prop) (μ:σ→Nat) (b:I s0 w)
 (h:∀ s w X,I s w→(∀ s' w',I s' w'→μ s'<μ s→X s' w')→body s X w):Ac3 body s0 w:=by
 intro X hX
 have key:∀ n s w,μ s=n→I s w→X s w:=by
  intro n
  induction n using Nat.strongRecOn with
  | _ n ih=>
    intro s w hn hI
    exact hX s w (h s w X hI fun s' w' hI' hlt=>ih (μ s') (hn ▸ hlt) s' w' rfl hI')
 exact key _ s0 w rfl b
theorem Aa9 {σ:Type} {f:(σ→World→Prop)→Prop} {J:σ→World→Prop} (Φ:σ→World→Prop) (b:∀ J:σ→World→Prop,(∀ s w,Φ s w→J s w)→f J) (d:∀ s w,Φ s w→J s w):Ad7 f J:=b J d
theorem Ab7 {b:Bool} {A B:Prop} (d:b=true→A) (e:b=false→B):cond b A B:=by cases b;exact e rfl;exact d rfl
end
theorem wrN {n:Nat} (h:n<9223372036854775808):IntKind.i64.wrap (n:Int)=n:=by
 simp only [IntKind.wrap,IntKind.bits,IntKind.signed];simp;omega
theorem wrI {n:Int} (b : -9223372036854775808≤n) (h:n<9223372036854775808):IntKind.i64.wrap n=n:=by
 simp only [IntKind.wrap,IntKind.bits,IntKind.signed];simp;omega
structure Reals (w:World) (a:Option Addr) (n c:Nat) (l:List Nat):Prop where
 len:l.length=n
 cap:n≤c
 at_:∀ i,i<l.length→∃ x,a=some x∧w.cell? (x.add i)=some (.float .f64 (l.getD i 0))
def Hb2 (l:List Nat):Array Value:=(l.map (AI .f64)).toArray
theorem Reals.keep {w w':World} {M:List (Nat×Array Value×Nat)} {a:Option Addr} {len cap:Nat} {l:List Nat} (h:Reals w a len cap l) (k:St w w' M):Reals w' a len cap l:=
 ⟨h.len,h.cap,fun i hi=>let ⟨x,hx,hc⟩:=h.at_ i hi;⟨x,hx,k.cell hc⟩⟩
theorem Fr5 {l:List Nat} {i:Nat} (h:i<l.length):(Hb2 l)[i]?=some (.float .f64 (l.getD i 0)):=by
 simp [Hb2,h]
theorem Reals.own {w0 w:World} {L:List (Nat×Array Value×Nat)} {r t:Nat} {l:List Nat} (h:St w0 w L) (he:(r,Hb2 l,t)∈L):Reals w (some ⟨r,0,none⟩) l.length l.length l:=
 ⟨rfl,AF _,fun i hi=>⟨_,rfl,by rw [Cg7,h.get he,Fr5 hi]⟩⟩
theorem Reals.read {w:World} {a:Option Addr} {len cap:Nat} {l:List Nat} (h:Reals w a len cap l) {i:Nat} (hi:i<len) {K:Addr→Prop}
 (hk:∀ x,w.cell? (x.add i)=some (.float .f64 (l.getD i 0))→K x):Ab6 a K:=by
 obtain ⟨x,rfl,hc⟩:=h.at_ i (by rw [h.len];exact hi)
 exact hk x hc
section
variable {w0 w:World} {L B:List (Nat×Array Value×Nat)} {r t i:Nat} {c:Array Value} {a:Addr}
theorem St.rd (hS:St w0 w L) (he:(r,c,t)∈L) (ha:a=⟨r,i,none⟩) {v:Value} (hc:c[i]?=some v):w.cell? a=some v:=by rw [ha,hS.get he];exact hc
theorem st2 {b d:Nat×Array Value×Nat} {v:Value} {k:World→Prop} (h:St w0 w (b::d::(r,c,t)::B)) (ha:a=⟨r,i,none⟩) (hi:Nat.blt i c.size=true) (hk:∀ w',St w0 w' (b::d::(r,c.setIfInBounds i v,t)::B)→k w'):stM a v w k:=
 Gz1 [b,d] h ha (by simpa [Nat.blt,Nat.lt_iff_add_one_le] using hi) hk
end
end Go.Eng
/-
  What 'append' and 'make' come to, for slices whose elements are of one cell each. No condition.
-/
namespace Go.Eng
open Go
open Go.RowKit (Below)
def Df2 (c:Array Value):Nat→List Value→Array Value
 | _,[]=>c
 | i,v::vs=>Df2 (c.setIfInBounds i v) (i+1) vs
theorem Bh0:∀ (k l z:List Value),k.length≤z.length→Df2 (l++z).toArray l.length k=(l++k++z.drop k.length).toArray
 | [],l,z,_=>by simp [Df2]
 | v::k,l,z,h=>by
   cases z with
   | nil=>simp at h
   | cons y z=>
     have h':k.length≤z.length:=by simpa using h
     have e:((l++y::z).toArray.setIfInBounds l.length v)=((l ++ [v])++z).toArray:=by simp
     have b:l.length+1=(l ++ [v]).length:=by simp
     show Df2 ((l++y::z).toArray.setIfInBounds l.length v) (l.length+1) k=_
     rw [e,b,Bh0 k (l ++ [v]) z h']
     simp
theorem Dv6 {w0:World} {A B:List (Nat×Array Value×Nat)} {r t:Nat}:∀ {vs:List Value} {w:World} {c:Array Value} {o i:Nat},St w0 w (A++(r,c,t)::B)→o+i+vs.length≤c.size→(∀ v∈vs,Cu7 v=true) →
 Fx2 vs ⟨r,o,none⟩ i w∧St w0 (Az9 vs ⟨r,o,none⟩ i w) (A++(r,Df2 c (o+i) vs,t)::B)
 | [],w,c,o,i,h,_,_=>⟨trivial,h⟩
 | v::vs,w,c,o,i,h,hl,hv=>by
   have e:(⟨r,o,none⟩:Addr).add i=⟨r,o+i,none⟩:=by
    unfold Addr.add
    by_cases hi:i=0
    · subst hi;rfl
    · simp [hi]
   have hlt:o+i<c.size:=by simp at hl;omega
   have hs:=h.set (o+i) v
   obtain ⟨b,d⟩:=Dv6 (vs:=vs) (o:=o) (i:=i+1) hs (by simp at hl ⊢;omega) (fun x hx=>hv x (AC _ hx))
   have hh:St w0 (Az9 vs ⟨r,o,none⟩ (i+1) (w.setCell ⟨r,o+i,none⟩ v)) (A++(r,Df2 c (o+i) (v::vs),t)::B):=d
   refine ⟨⟨hv v (AB ..),?_,?_⟩,?_⟩
   · rw [e];exact h.ok (AA _ (AB ..)) hlt
   · rw [e];exact b
   · show St w0 (Az9 vs ⟨r,o,none⟩ (i+1) (w.setCell ((⟨r,o,none⟩:Addr).add i) v)) _
     rw [e];exact hh
theorem Cm9 (n:Nat) (v:Value):Cz6 n #[v]=(List.replicate n v).toArray:=by
 apply Array.ext_getElem?
 intro i
 by_cases h:i<n
 · simp [Cz6,h,Nat.mod_one]
 · simp [Cz6,h]
def Sl (B:List (Nat×Array Value×Nat)) (a:Option Addr) (n c:Nat) (l:List Value) (t:Nat):Prop:=
 n=l.length∧((B = []∧a=none∧c=0∧l = [])∨∃ (r:Nat) (z:List Value),B = [(r,(l++z).toArray,t)]∧a=some ⟨r,0,none⟩∧l.length+z.length=c)
theorem Sl.nil (t:Nat):Sl [] none 0 0 [] t:=⟨rfl,.inl ⟨rfl,rfl,rfl,rfl⟩⟩
section
variable {w0 w:World} {L:List (Nat×Array Value×Nat)} {K:Option Addr→Nat→Nat→World→Prop}
theorem Reals.row {a:Option Addr} {n c:Nat} {l:List Nat} (h:Reals w a n c l):Dp4 w a (l.map (AI .f64)):=by
 cases a with
 | none=>
   cases l with
   | nil=>rfl
   | cons x l=>obtain ⟨y,hy,_⟩:=h.at_ 0 (by simp);cases hy
 | some x=>
   intro i hi
   simp at hi
   obtain ⟨y,hy,hc⟩:=h.at_ i hi
   cases hy
   rw [hc];simp [hi]
theorem Reals.sl {B:List (Nat×Array Value×Nat)} {a:Option Addr} {n c t:Nat} {l:List Nat} (hS:St w0 w (L++B)) (h:Sl B a n c (l.map (AI .f64)) t):Reals w a n c l:=by
 obtain ⟨rfl,⟨rfl,rfl,rfl,hl⟩ | ⟨r,z,rfl,rfl,hc⟩⟩:=h
 · have:l = []:=by simpa using hl
   subst this
   exact ⟨rfl,AF _,fun i hi=>by simp at hi⟩
 · refine ⟨by simp,by omega,fun i hi=>⟨_,rfl,?_⟩⟩
   rw [Cg7,hS.get (AA _ (List.mem_singleton.2 rfl))]
   simp [List.getElem?_append_left,hi]
end
end Go.Eng
