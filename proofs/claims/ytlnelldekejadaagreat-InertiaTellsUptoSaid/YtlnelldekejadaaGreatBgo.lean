/-
  Words of 32 bits, the least first, beside natural numbers: value, digits, the words of a number. No condition. (Groundwork for the whole numbers of any size.)
-/
import Derived.Test.YtlnelldekejadaaGreatPl
import Derived.Lib.BitFns
set_option linter.all false
set_option maxRecDepth 100000
set_option maxHeartbeats 4000000
open List renaming mem_cons_self→AA,mem_cons_of_mem→AB,getD_eq_getElem?_getD→AC,getD_cons_succ→AE,length_cons→AF,length_map→AG,getD_cons_zero→AI,getElem?_take→AK,append_assoc→AM,map_append→AN,nil_append→AO
open Nat renaming pow_succ→AD,lt_of_le_of_lt→AJ,mul_comm→AL
open Go.Value renaming int→AH
namespace Go.Eng
def wv:List Int→Nat
 | []=>0
 | x::l=>x.toNat+4294967296*wv l
def Wd (l:List Int):Prop:=∀ x∈l,0≤x∧x<4294967296
theorem Ds3:Wd []:=fun x h=>by cases h
theorem Bu9 {x:Int} {l:List Int} (b:0≤x) (d:x<4294967296) (h:Wd l):Wd (x::l):=by
 intro y hy
 rcases List.mem_cons.1 hy with rfl | hy
 · exact ⟨b,d⟩
 · exact h y hy
theorem Bc9 {x:Int} {l:List Int} (h:Wd (x::l)):Wd l:=fun y hy=>h y (AB _ hy)
theorem Bg4 {x:Int} {l:List Int} (h:Wd (x::l)):0≤x∧x<4294967296:=h x (AA ..)
theorem Eb1 {l m:List Int} (h:Wd l) (k:Wd m):Wd (l++m):=by
 intro y hy
 rcases List.mem_append.1 hy with hy | hy
 · exact h y hy
 · exact k y hy
theorem Cs9 (n:Nat):Wd (List.replicate n 0):=by
 intro y hy
 rw [(List.mem_replicate.1 hy).2];omega
theorem Bi5 {l:List Int} {x:Int} {k:Nat} (h:Wd l) (b:0≤x) (d:x<4294967296):Wd (l.set k x):=by
 intro y hy
 rcases List.mem_or_eq_of_mem_set hy with hy | rfl
 · exact h y hy
 · exact ⟨b,d⟩
theorem Fn4 {l:List Int} (h:Wd l) (n:Nat):Wd (l.take n):=fun y hy=>h y (List.mem_of_mem_take hy)
theorem Fh8 {l:List Int} (h:Wd l) (n:Nat):Wd (l.drop n):=fun y hy=>h y (List.mem_of_mem_drop hy)
theorem Cg6 {l:List Int} (h:Wd l) (k:Nat):0≤l.getD k 0∧l.getD k 0<4294967296:=by
 rcases Nat.lt_or_ge k l.length with hk | hk
 · rw [AC,List.getElem?_eq_getElem hk]
   exact h _ (List.getElem_mem hk)
 · rw [AC,List.getElem?_eq_none hk]
   exact ⟨Int.le_refl _,by decide⟩
theorem Cc1 (l m:List Int):wv (l++m)=wv l+4294967296^l.length*wv m:=by
 induction l with
 | nil=>simp [wv]
 | cons x l ih=>simp only [List.cons_append,wv,ih,AF,AD];grind
theorem Cg4 (n:Nat):wv (List.replicate n 0)=0:=by
 induction n with
 | zero=>rfl
 | succ n ih=>rw [List.replicate_succ];simp [wv,ih]
theorem Cm0 {l:List Int} (h:Wd l):wv l<4294967296^l.length:=by
 induction l with
 | nil=>simp [wv]
 | cons x l ih=>
   have b:=ih (Bc9 h)
   have d:=Bg4 h
   simp only [wv,AF,AD]
   generalize 4294967296^l.length=P at *
   omega
theorem Ct1 {l:List Int} (x:Int) {k:Nat} (hk:k<l.length):wv (l.set k x)+(l.getD k 0).toNat*4294967296^k=wv l+x.toNat*4294967296^k:=by
 induction l generalizing k with
 | nil=>simp at hk
 | cons y l ih=>
   cases k with
   | zero=>simp [wv];omega
   | succ k=>
     have:=ih (k:=k) (by simpa using hk)
     simp only [List.set_cons_succ,wv,AE,AD]
     grind
def dg (a k:Nat):Nat:=a/4294967296^k%4294967296
theorem Am1 (a k:Nat):dg a k<4294967296:=Nat.mod_lt _ (by omega)
theorem Ce8 (a:Nat):dg a 0=a%4294967296:=by simp [dg]
theorem Ei3 (a k:Nat):dg a (k+1)=dg (a/4294967296) k:=by
 unfold dg
 rw [AD,AL,← Nat.div_div_eq_div_mul]
theorem Ac5 (k:Nat):0<4294967296^k:=Nat.pow_pos (by omega)
theorem Bh8 {a k:Nat} (h:a<4294967296^k):dg a k=0:=by unfold dg;rw [Nat.div_eq_of_lt h]
theorem Ae1 (a k:Nat):a%4294967296^(k+1)=a%4294967296^k+dg a k*4294967296^k:=by
 unfold dg
 rw [AD,Nat.mod_mul,AL (a/_%_)]
theorem Ay7 {a k:Nat} (h:a<4294967296^k):a%4294967296^k=a:=Nat.mod_eq_of_lt h
def W (n:Nat):List Int:=if n=0 then [] else ((n%4294967296:Nat):Int)::W (n/4294967296)
termination_by n
decreasing_by omega
theorem Ap5:W 0 = []:=by rw [W];rfl
theorem Fb2 {n:Nat} (h:n≠0):W n=((n%4294967296:Nat):Int)::W (n/4294967296):=by rw [W,if_neg h]
theorem Ft7 {p:Nat→Prop} (b:p 0) (h:∀ n,n≠0→p (n/4294967296)→p n) (n:Nat):p n:=by
 induction n using Nat.strongRecOn with
 | ind n ih=>
   by_cases hn:n=0
   · rw [hn];exact b
   · exact h n hn (ih _ (by omega))
theorem Bf0 (n:Nat):wv (W n)=n:=by
 refine Ft7 (p:=fun n=>wv (W n)=n) (by rw [Ap5];rfl) (fun n hn ih=>?_) n
 rw [Fb2 hn,wv,ih];omega
theorem Bk2 (n:Nat):Wd (W n):=by
 refine Ft7 (p:=fun n=>Wd (W n)) (by rw [Ap5];exact Ds3) (fun n hn ih=>?_) n
 rw [Fb2 hn]
 exact Bu9 (by omega) (by omega) ih
theorem Cs5 {n:Nat}:W n = []↔n=0:=by
 constructor
 · intro h
   have:=Bf0 n
   rw [h] at this;exact this.symm
 · rintro rfl;exact Ap5
theorem Fm6 (n k:Nat):(W n).getD k 0=((dg n k:Nat):Int):=by
 refine Ft7 (p:=fun n=>∀ k,(W n).getD k 0=((dg n k:Nat):Int)) (fun k=>?_) (fun n hn ih k=>?_) n k
 · rw [Ap5];simp [dg]
 · rw [Fb2 hn]
   cases k with
   | zero=>rw [Ce8];rfl
   | succ k=>rw [AE,ih,Ei3]
theorem Ad2 (n:Nat):n<4294967296^(W n).length:=by
 have:=Cm0 (Bk2 n)
 rwa [Bf0] at this
theorem Dl1 {n:Nat} (h:n≠0):4294967296^((W n).length-1)≤n:=by
 refine Ft7 (p:=fun n=>n≠0→4294967296^((W n).length-1)≤n) (fun h=>absurd rfl h) (fun n hn ih _=>?_) n h
 rw [Fb2 hn]
 by_cases hz:n/4294967296=0
 · rw [hz,Ap5];simp;omega
 · have b:=ih hz
   have d:(W (n/4294967296)).length≠0:=by
    intro e;exact hz (Cs5.1 (List.eq_nil_of_length_eq_zero e))
   rw [AF,Nat.add_sub_cancel,show (W (n/4294967296)).length=((W (n/4294967296)).length-1)+1 by omega,AD]
   generalize 4294967296^((W (n/4294967296)).length-1)=P at *
   omega
theorem An5 {n k:Nat} (h:n<4294967296^k):(W n).length≤k:=by
 by_cases hn:n=0
 · rw [hn,Ap5];exact Nat.zero_le _
 · have:=AJ (Dl1 hn) h
   have:=(Nat.pow_lt_pow_iff_right (a:=4294967296) (by omega)).1 this
   omega
theorem Bc0 {m n:Nat} (h:m≤n):(W m).length≤(W n).length:=An5 (AJ h (Ad2 n))
theorem Fm0 (n:Nat):(W n).length≤n.log2/32+1:=by
 by_cases hn:n=0
 · rw [hn,Ap5];exact Nat.zero_le _
 · refine An5 (Nat.lt_of_lt_of_le Nat.lt_log2_self ?_)
   rw [show (4294967296:Nat)=2^32 from rfl,← Nat.pow_mul]
   exact Nat.pow_le_pow_right (by omega) (by omega)
theorem Hd9 {l:List Int} (h:Wd l) (hl:l = []∨l.getD (l.length-1) 0≠0):l=W (wv l):=by
 induction l with
 | nil=>exact Ap5.symm
 | cons x l ih=>
   have hx:=Bg4 h
   have hl':=hl.resolve_left (by simp)
   have step:l = []∨l.getD (l.length-1) 0≠0:=by
    cases l with
    | nil=>exact .inl rfl
    | cons y l=>right;simpa using hl'
   have ih:=ih (Bc9 h) step
   have hv:wv (x::l)=x.toNat+4294967296*wv l:=rfl
   have hne:wv (x::l)≠0:=by
    intro e
    rw [hv] at e
    have b:wv l=0:=by omega
    rw [b,Ap5] at ih
    subst ih
    have d:x=0:=by omega
    exact hl' (by simpa using d)
   rw [Fb2 hne,hv,show (x.toNat+4294967296*wv l)%4294967296=x.toNat by omega,show (x.toNat+4294967296*wv l)/4294967296=wv l by omega,← ih]
   congr 1;omega
theorem Gf9 {l:List Int} {k:Nat} (h:∀ j,k≤j→j<l.length→l.getD j 0=0):wv (l.take k)=wv l:=by
 induction l generalizing k with
 | nil=>simp
 | cons x l ih=>
   cases k with
   | zero=>
     have b:=h 0 (by omega) (by simp)
     have hr:wv l=0:=by
      rw [← ih (k:=0) fun j hj hjl=>by have:=h (j+1) (by omega) (by simpa using hjl);simpa using this]
      rfl
     have hx:x=0:=by simpa using b
     subst hx
     simp [wv,hr]
   | succ k=>
     rw [List.take_succ_cons]
     simp only [wv]
     rw [ih fun j hj hjl=>by have:=h (j+1) (by omega) (by simpa using hjl);simpa using this]
theorem Ga2 {l:List Int} {k:Nat} (h:Wd l) (hk:k≤l.length) (d:∀ j,k≤j→j<l.length→l.getD j 0=0) (b:k=0∨l.getD (k-1) 0≠0):l.take k=W (wv l):=by
 rw [← Gf9 d]
 refine Hd9 (Fn4 h k) ?_
 rcases b with b | b
 · subst b;exact .inl rfl
 · by_cases hz:k=0
   · subst hz;exact .inl rfl
   · right
     rw [List.length_take,Nat.min_eq_left hk,AC,AK,if_pos (by omega),← AC]
     exact b
theorem Gi9 {l:List Int} (h:Wd l) (k:Nat):((dg (wv l) k:Nat):Int)=l.getD k 0:=by
 induction l generalizing k with
 | nil=>simp [wv,dg]
 | cons x l ih=>
   have hx:=Bg4 h
   have hv:wv (x::l)=x.toNat+4294967296*wv l:=rfl
   cases k with
   | zero=>rw [Ce8,hv,AI];omega
   | succ k=>
     rw [Ei3,hv,show (x.toNat+4294967296*wv l)/4294967296=wv l by omega,ih (Bc9 h),AE]
theorem Gu0 {l:List Int} {R:Nat} (h:Wd l) (hR:R<4294967296^l.length) (hd:∀ k,k<l.length→l.getD k 0=((dg R k:Nat):Int)):wv l=R:=by
 induction l generalizing R with
 | nil=>simp at hR;simp [wv,hR]
 | cons x l ih=>
   have hx:=Bg4 h
   have b:=hd 0 (by simp)
   rw [Ce8,AI] at b
   have d:=ih (R:=R/4294967296) (Bc9 h) (by
    rw [AF,AD] at hR
    exact Nat.div_lt_of_lt_mul (by rw [AL];exact hR)) fun k hk=>by
    have:=hd (k+1) (by simpa using hk)
    rwa [AE,Ei3] at this
   simp only [wv,d]
   omega
end Go.Eng
/-
  Whole numbers of any size behind pointers: the struct's block and the words' block together, as one item of memory that stands for a whole number. No condition.
-/
namespace Go.Eng
open Go
open Go.RowKit (Below)
def wds (z:Int):List Value:=(W z.natAbs).map (AH .u32)
def bgR (I r:Nat) (a:Option Addr) (n c:Nat) (z:Int) (w:World):Prop:=
 (cl r [.bool (decide (z<0)),.slice a n c] I).A w∧rdA (wds z) a n c w
def bgA (I E r:Nat) (a:Option Addr) (n c:Nat) (z:Int) (w:World):Prop:=
 (cl r [.bool (decide (z<0)),.slice a n c] I).A w∧slA a n c (wds z) E w∧∀ x,a=some x→x.block≠r
def bg (I E r:Nat) (a:Option Addr) (n c:Nat) (z:Int):It:=
 ⟨true,fun b=>b=r∨∃ x,a=some x∧x.block=b,bgA I E r a n c z,fun w w' hw h=>
  ⟨(cl r _ I).st w w' (fun b hb=>hw b (.inl hb)) h.1,(sl a n c (wds z) E).st w w' (fun b hb=>hw b (.inr hb)) h.2.1,h.2.2⟩⟩
theorem bgA.rd {I E r n c:Nat} {a:Option Addr} {z:Int} {w:World} (h:bgA I E r a n c z w):bgR I r a n c z w:=⟨h.1,h.2.1.rd⟩
theorem Ent.bg {L:List It} {I E r n c:Nat} {a:Option Addr} {z:Int} (h:Go.Eng.bg I E r a n c z∈L):Ent L (bgR I r a n c z):=(Ent.of h).imp fun _ k=>bgA.rd k
theorem Ent.bgS {L:List It} {I r n c:Nat} {a:Option Addr} {z:Int} (h:Ent L (bgR I r a n c z)):Ent L (cl r [.bool (decide (z<0)),.slice a n c] I).A:=h.imp fun _ k=>k.1
theorem Ent.bgW {L:List It} {I r n c:Nat} {a:Option Addr} {z:Int} (h:Ent L (bgR I r a n c z)):Ent L (rdA ((W z.natAbs).map (AH .u32)) a n c):=h.imp fun _ k=>k.2
section
variable {w0 w:World} {L:List It} {I E r n c:Nat} {a:Option Addr} {z:Int}
theorem Ho.bgOpen (h:Ho w0 w (bg I E r a n c z::L)):Ho w0 w (cl r [.bool (decide (z<0)),.slice a n c] I::sl a n c ((W z.natAbs).map (AH .u32)) E::L):=by
 have hA:bgA I E r a n c z w:=h.hold _ (AA ..)
 have hsep:=List.pairwise_cons.1 h.sep
 refine ⟨h.below,fun e he=>?_,fun e he b hb=>?_,fun e he ho b hb=>?_,?_⟩
 · rcases List.mem_cons.1 he with rfl | he
   · exact hA.1
   rcases List.mem_cons.1 he with rfl | he
   · exact hA.2.1
   · exact h.hold e (AB _ he)
 · rcases List.mem_cons.1 he with rfl | he
   · exact h.lt _ (AA ..) b (.inl hb)
   rcases List.mem_cons.1 he with rfl | he
   · exact h.lt _ (AA ..) b (.inr hb)
   · exact h.lt e (AB _ he) b hb
 · rcases List.mem_cons.1 he with rfl | he
   · exact h.new _ (AA ..) rfl b (.inl hb)
   rcases List.mem_cons.1 he with rfl | he
   · exact h.new _ (AA ..) rfl b (.inr hb)
   · exact h.new e (AB _ he) ho b hb
 · refine List.pairwise_cons.2 ⟨fun e he _ b hb hb'=>?_,List.pairwise_cons.2 ⟨fun e he _ b hb hb'=>hsep.1 e he (.inl rfl) b (.inr hb) hb',hsep.2⟩⟩
   rcases List.mem_cons.1 he with rfl | he
   · obtain ⟨x,hx,rfl⟩:=hb'
     exact hA.2.2 x hx hb
   · exact hsep.1 e he (.inl rfl) b (.inl hb) hb'
theorem Ho.bgShut {s:Bool} {l:List Int} (h:Ho w0 w (cl r [.bool s,.slice a n c] I::sl a n c (l.map (AH .u32)) E::L)) (hs:s=decide (z<0)) (hl:l=W z.natAbs):Ho w0 w (bg I E r a n c z::L):=by
 subst hs hl
 have hsep:=List.pairwise_cons.1 h.sep
 have hsep2:=List.pairwise_cons.1 hsep.2
 refine ⟨h.below,fun e he=>?_,fun e he b hb=>?_,fun e he ho b hb=>?_,List.pairwise_cons.2 ⟨fun e he _ b hb hb'=>?_,hsep2.2⟩⟩
 · rcases List.mem_cons.1 he with rfl | he
   · refine ⟨h.hold _ (AA ..),h.hold _ (AB _ (AA ..)),fun x hx e=>?_⟩
     exact hsep.1 _ (AA ..) (.inl rfl) r rfl ⟨x,hx,e⟩
   · exact h.hold e (AB _ (AB _ he))
 · rcases List.mem_cons.1 he with rfl | he
   · rcases hb with hb | hb
     · exact h.lt _ (AA ..) b hb
     · exact h.lt _ (AB _ (AA ..)) b hb
   · exact h.lt e (AB _ (AB _ he)) b hb
 · rcases List.mem_cons.1 he with rfl | he
   · rcases hb with hb | hb
     · exact h.new _ (AA ..) rfl b hb
     · exact h.new _ (AB _ (AA ..)) rfl b hb
   · exact h.new e (AB _ (AB _ he)) ho b hb
 · rcases hb with hb | hb
   · exact hsep.1 e (AB _ he) (.inl rfl) b hb hb'
   · exact hsep2.1 e he (.inl rfl) b hb hb'
theorem Ho.bgNew (h:Ho w0 w (cl r [.bool false,.slice Option.none 0 0] I::L)):Ho w0 w (bg I E r Option.none 0 0 0::L):=by
 have b:Ho w0 w (sl Option.none 0 0 (([]:List Int).map (AH .u32)) E::cl r [.bool false,.slice Option.none 0 0] I::L):=h.none
 have d:=b.perm (List.Perm.swap _ _ L)
 exact Ho.bgShut (s:=false) (l:=[]) d rfl Ap5.symm
theorem Ho.drop3 {x y z:It} (h:Ho w0 w (x::y::z::L)):Ho w0 w (x::y::L):=h.sub (((List.sublist_cons_self z L).cons_cons y).cons_cons x)
end
theorem Ho.cut {α:Type} {enc:α→Value} {ws:List α} {hi:Int} {w0 w:World} {L:List It} {a:Option Addr} {n c t:Nat} (hS:Ho w0 w (sl a n c (ws.map enc) t::L)) (h:hi.toNat≤ws.length) :
 Ho w0 w (sl (Ak1 a 0 c 1) hi.toNat c (((ws.drop (0:Int).toNat).take (hi.toNat-(0:Int).toNat)).map enc) t::L):=by
 rw [Cu9]
 have hA:slA a n c (ws.map enc) t w:=hS.hold _ (AA ..)
 have e:(ws.drop (0:Int).toNat).take (hi.toNat-(0:Int).toNat)=ws.take hi.toNat:=by simp
 rw [e]
 refine hS.put rfl (Below.refl _ _) (fun _ _ _=>rfl) ?_ (fun b hb=>hS.lt _ (AA ..) b hb) fun b hb => .inl hb
 refine ⟨by simp;omega,?_⟩
 rcases hA.2 with ⟨d,f,g⟩ | ⟨r,z,d,f,g⟩
 · left
   have:ws = []:=by simpa using g
   subst this
   exact ⟨d,f,by simp⟩
 · right
   refine ⟨r,(ws.drop hi.toNat).map enc++z,d,?_,?_⟩
   · rw [← AM,← AN,List.take_append_drop];exact f
   · simp at g ⊢;omega
def Fd1 {α:Type} (d s:List α):List α:=s.take d.length++d.drop s.length
theorem En2 {α:Type} (d s:List α):(Fd1 d s).length=d.length:=by unfold Fd1;simp;omega
theorem Gn0 {α:Type} {enc:α→Value} {ws ks:List α} {w0 w:World} {L:List It} {a b:Option Addr} {n c m cb t:Nat} {K:World→Prop} (hS:Ho w0 w (sl a n c (ws.map enc) t::L)) (hk:rdA (ks.map enc) b m cb w) (hv:∀ y,Cu7 (enc y)=true)
 (hK:∀ w':World,Ho w0 w' (sl a n c ((Fd1 ws ks).map enc) t::L)→K w'):Gt9 1 a n b m w K:=by
 have hA:slA a n c (ws.map enc) t w:=hS.hold _ (AA ..)
 have hm:m=ks.length:=by rw [hk.len,AG]
 have hn:n=ws.length:=by rw [hA.1,AG]
 have hlen:((ks.take ws.length).map enc).length=min m n:=by simp;omega
 refine ⟨(ks.take ws.length).map enc,by rw [hlen,Nat.mul_one],?_,?_⟩
 · have hr:=hk.row
   cases b with
   | none=>
     have:ks = []:=by simpa [Dp4] using hr
     subst this;simp [Dp4]
   | some x=>
     intro i hi
     have hi':i<(ks.map enc).length:=by simp at hi ⊢;omega
     have:=hr i hi'
     rw [this]
     have d:i<ws.length:=by simp at hi;omega
     simp [AK,d]
 · obtain ⟨_,⟨rfl,rfl,he⟩ | ⟨r,z,rfl,hr,hc⟩⟩:=hA
   · have d:ws = []:=by simpa using he
     subst d
     refine hK _ ?_
     have:Fd1 ([]:List α) ks = []:=by unfold Fd1;simp
     rw [this];exact hS
   · have hlt:r<w.heap.size:=by
      rcases Nat.lt_or_ge r w.heap.size with d | d
      · exact d
      · rw [Array.getElem?_eq_none d] at hr;cases hr
     have hnew:w0.heap.size≤r:=hS.new _ (AA ..) rfl r ⟨_,rfl,rfl⟩
     have hst:St w0 w [(r,(ws.map enc++z).toArray,t)]:=⟨hS.below,fun e he=>by
      simp only [List.mem_singleton] at he;subst he;exact ⟨hnew,hr⟩,List.pairwise_singleton _ _⟩
     obtain ⟨g,f⟩:=Dv6 (A:=[]) (B:=[]) (vs:=(ks.take ws.length).map enc) (o:=0) (i:=0) hst (by simp;omega) (by intro v hv';obtain ⟨y,_,rfl⟩:=List.mem_map.1 hv';exact hv y)
     refine ⟨g,hK _ ?_⟩
     have pr:=Bh0 ((ks.take ws.length).map enc) [] (ws.map enc++z) (by simp;omega)
     rw [show 0+0=([]:List Value).length from rfl] at f
     rw [AO,AO] at pr
     rw [pr] at f
     have hown:=(f.own _ (List.mem_singleton.2 rfl)).2
     have hbel:=Bv8.setRow_other ((ks.take ws.length).map enc) r 0 0 w
     refine hS.put rfl ⟨hbel.1,hbel.2.1,hbel.2.2.1,by rw [hbel.2.2.2.1];exact Nat.le_refl _,fun k hk'=>hbel.2.2.2.2 k (by omega)⟩ (fun b hb hne=>hbel.2.2.2.2 b (fun e=>hne ⟨_,rfl,e.symm⟩)) ⟨by rw [AG,En2];exact hn,.inr ⟨r,z,rfl,?_,by rw [AG,En2];simpa using hc⟩⟩ (fun b hb=>?_) fun b hb => .inl hb
     · rw [hown]
       have e:(ws.map enc++z).drop ((ks.take ws.length).map enc).length=(ws.drop ks.length).map enc++z:=by
        rcases Nat.le_total ks.length ws.length with h | h
        · rw [show ((ks.take ws.length).map enc).length=ks.length by simp;omega,List.drop_append_of_le_length (by simpa using h),List.map_drop]
        · rw [show ((ks.take ws.length).map enc).length=(ws.map enc).length by simp;omega,List.drop_left,List.drop_of_length_le (l:=ws) h]
          rfl
       rw [e]
       unfold Fd1
       rw [AN,AM]
     · obtain ⟨x,hx,rfl⟩:=hb
       cases hx
       rw [hbel.2.2.2.1];exact hlt
def Bw8 (z:Int):Option Int:=if z.natAbs.log2<34359738368 then some z else none
theorem Ga5 {z y:Int} (h:Bw8 z=some y):z=y∧z.natAbs.log2<34359738368:=by
 unfold Bw8 at h
 split at h
 · exact ⟨Option.some.inj h,by assumption⟩
 · cases h
theorem Gq8 {z:Int} (h:z.natAbs.log2<34359738368):Bw8 z=some z:=if_pos h
end Go.Eng
/-
  What the methods of whole numbers of any size reckon, as functions of whole numbers. No condition.
-/
namespace Go.Eng
open Go
def tzF:Nat→Nat→Nat
 | 0,_=>0
 | f+1,n=>if n%2=1 then 0 else tzF f (n/2)+1
def tzN (n:Nat):Nat:=if n=0 then 0 else tzF (n.log2+1) n
theorem Cx1 (n:Nat):tzN n=if n=0 then 0 else if n%2=1 then 0 else tzN (n/2)+1:=by
 by_cases b:n=0
 · rw [if_pos b];unfold tzN;rw [if_pos b]
 · rw [if_neg b]
   have e:tzN n=tzF (n.log2+1) n:=by unfold tzN;rw [if_neg b]
   rw [e,tzF]
   by_cases d:n%2=1
   · rw [if_pos d,if_pos d]
   · have f:n/2≠0:=by omega
     have el:n.log2=(n/2).log2+1:=by rw [Nat.log2_def,if_pos (by omega)]
     have g:tzN (n/2)=tzF ((n/2).log2+1) (n/2):=by unfold tzN;rw [if_neg f]
     rw [if_neg d,if_neg d,g,el]
def blN (n:Nat):Nat:=if n=0 then 0 else n.log2+1
def An3 (z:Int):Option Int:=some (if z<0 then -1 else if z=0 then 0 else 1)
def Dy7 (x y:Int):Option Int:=(Bw8 x).bind fun x=>(Bw8 y).bind fun y=>some (if x<y then -1 else if x=y then 0 else 1)
def Af2 (z:Int):Option Int:=(Bw8 z).bind fun z=>some ((tzN z.natAbs:Nat):Int)
def Be1 (z:Int):Option Int:=(Bw8 z).bind fun z=>some ((blN z.natAbs:Nat):Int)
def Aw0 (z:Int):Option Int:=some ((z.natAbs%18446744073709551616:Nat):Int)
def At5 (n:Int):Option Int:=if -9223372036854775808≤n∧n<9223372036854775808 then some n else none
def Ak6 (n:Int):Option Int:=if 0≤n∧n<18446744073709551616 then some n else none
def Cr3 (z:Int):Option Int:=(Bw8 z).bind fun z=>some (-z)
def Bo3 (z:Int):Option Int:=(Bw8 z).bind fun z=>some (z.natAbs:Int)
def Bf5 (z n:Int):Option Int:=if 0≤n∧n<34359738368 then (Bw8 z).bind fun z=>Bw8 (z*((2^n.toNat:Nat):Int)) else none
def Bi2 (z n:Int):Option Int:=if 0≤z∧0≤n∧n<18446744073709551616 then (Bw8 z).bind fun z=>some ((z.natAbs/2^n.toNat:Nat):Int) else none
def Au1 (x y:Int):Option Int:=(Bw8 x).bind fun x=>(Bw8 y).bind fun y=>some (x+y)
def Ct9 (x y:Int):Option Int:=(Bw8 x).bind fun x=>(Bw8 y).bind fun y=>some (x-y)
def Bt7 (x y:Int):Option Int:=(Bw8 x).bind fun x=>(Bw8 y).bind fun y=>some (x*y)
def Di3 (x y:Int):Option Int:=if 0≤x∧0≤y then (Bw8 x).bind fun x=>(Bw8 y).bind fun y=>some ((x.natAbs &&& y.natAbs:Nat):Int) else none
def Ef0 (x y:Int):Option Int:=if 0≤x∧0≤y then (Bw8 x).bind fun x=>(Bw8 y).bind fun y=>some ((x.natAbs ||| y.natAbs:Nat):Int) else none
theorem Ge3 {n:Nat} (b:n≠0):2^tzN n≤n:=by
 induction n using Nat.strongRecOn with
 | ind n ih=>
   by_cases d:n%2=1
   · rw [Cx1,if_neg b,if_pos d];omega
   · rw [Cx1,if_neg b,if_neg d,AD]
     have:=ih (n/2) (by omega) (by omega)
     omega
theorem Fi4 {x:Nat} (h:x<18446744073709551616):Lib.bitLen x=blN x:=by
 have key:∀ f x,x<2^f→Lib.bitLenAux f x=blN x:=by
  intro f
  induction f with
  | zero=>
   intro x hx;have:x=0:=by simpa using hx
   subst this;rfl
  | succ f ih=>
    intro x hx
    unfold Lib.bitLenAux
    by_cases b:x=0
    · rw [if_pos b,b];rfl
    · rw [if_neg b,ih (x/2) (by rw [AD] at hx;omega)]
      unfold blN
      rw [if_neg b]
      by_cases d:x/2=0
      · have:x=1:=by omega
        subst this;decide
      · rw [if_neg d,Nat.log2_def x,if_pos (by omega)];omega
 exact key 64 x h
end Go.Eng
