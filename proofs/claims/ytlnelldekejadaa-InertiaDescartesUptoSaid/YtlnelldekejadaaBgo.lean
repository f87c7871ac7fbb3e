/-
  Words of 32 bits, the least first, beside natural numbers: value, digits, the words of a number. No condition. (Groundwork for the whole numbers of any size.)
-/
import Derived.Test.YtlnelldekejadaaPl
import Derived.Lib.BitFns
set_option linter.all false
set_option maxRecDepth 100000
set_option maxHeartbeats 4000000
namespace Go.Eng
def wv:List Int→Nat
  | []=>0
  | x::l=>x.toNat+4294967296*wv l
def Wd (l:List Int):Prop:=∀ x∈l,0≤x∧x<4294967296
theorem wd_nil:Wd []:=fun x h=>by cases h
theorem wd_cons {x:Int} {l:List Int} (h0:0≤x) (h1:x<4294967296) (h:Wd l):Wd (x::l):=by
  intro y hy
  rcases List.mem_cons.1 hy with rfl | hy
  · exact ⟨h0,h1⟩
  · exact h y hy
theorem wd_tail {x:Int} {l:List Int} (h:Wd (x::l)):Wd l:=fun y hy=>h y (List.mem_cons_of_mem _ hy)
theorem wd_head {x:Int} {l:List Int} (h:Wd (x::l)):0≤x∧x<4294967296:=h x (List.mem_cons_self ..)
theorem wd_append {l m:List Int} (h:Wd l) (k:Wd m):Wd (l++m):=by
  intro y hy
  rcases List.mem_append.1 hy with hy | hy
  · exact h y hy
  · exact k y hy
theorem wd_rep (n:Nat):Wd (List.replicate n 0):=by
  intro y hy
  rw [(List.mem_replicate.1 hy).2];omega
theorem wd_set {l:List Int} {x:Int} {k:Nat} (h:Wd l) (h0:0≤x) (h1:x<4294967296):Wd (l.set k x):=by
  intro y hy
  rcases List.mem_or_eq_of_mem_set hy with hy | rfl
  · exact h y hy
  · exact ⟨h0,h1⟩
theorem wd_take {l:List Int} (h:Wd l) (n:Nat):Wd (l.take n):=fun y hy=>h y (List.mem_of_mem_take hy)
theorem wd_get {l:List Int} (h:Wd l) (k:Nat):0≤l.getD k 0∧l.getD k 0<4294967296:=by
  rcases Nat.lt_or_ge k l.length with hk | hk
  · rw [List.getD_eq_getElem?_getD,List.getElem?_eq_getElem hk]
    exact h _ (List.getElem_mem hk)
  · rw [List.getD_eq_getElem?_getD,List.getElem?_eq_none hk]
    exact ⟨Int.le_refl _,by decide⟩
theorem wv_append (l m:List Int):wv (l++m)=wv l+4294967296^l.length*wv m:=by
  induction l with
  | nil=>simp [wv]
  | cons x l ih=>simp only [List.cons_append,wv,ih,List.length_cons,Nat.pow_succ];grind
theorem wv_rep (n:Nat):wv (List.replicate n 0)=0:=by
  induction n with
  | zero=>rfl
  | succ n ih=>rw [List.replicate_succ];simp [wv,ih]
theorem wv_lt {l:List Int} (h:Wd l):wv l<4294967296^l.length:=by
  induction l with
  | nil=>simp [wv]
  | cons x l ih=>
    have h1:=ih (wd_tail h)
    have h2:=wd_head h
    simp only [wv,List.length_cons,Nat.pow_succ]
    generalize 4294967296^l.length=P at *
    omega
theorem wv_set {l:List Int} (x:Int) {k:Nat} (hk:k<l.length):wv (l.set k x)+(l.getD k 0).toNat*4294967296^k=wv l+x.toNat*4294967296^k:=by
  induction l generalizing k with
  | nil=>simp at hk
  | cons y l ih=>
    cases k with
    | zero=>simp [wv];omega
    | succ k=>
      have:=ih (k:=k) (by simpa using hk)
      simp only [List.set_cons_succ,wv,List.getD_cons_succ,Nat.pow_succ]
      grind
def dg (a k:Nat):Nat:=a/4294967296^k%4294967296
theorem dg_lt (a k:Nat):dg a k<4294967296:=Nat.mod_lt _ (by omega)
theorem dg_zero (a:Nat):dg a 0=a%4294967296:=by simp [dg]
theorem dg_succ (a k:Nat):dg a (k+1)=dg (a/4294967296) k:=by
  unfold dg
  rw [Nat.pow_succ,Nat.mul_comm,← Nat.div_div_eq_div_mul]
theorem pow_pos32 (k:Nat):0<4294967296^k:=Nat.pow_pos (by omega)
theorem dg_big {a k:Nat} (h:a<4294967296^k):dg a k=0:=by unfold dg;rw [Nat.div_eq_of_lt h]
theorem mod_succ32 (a k:Nat):a%4294967296^(k+1)=a%4294967296^k+dg a k*4294967296^k:=by
  unfold dg
  rw [Nat.pow_succ,Nat.mod_mul,Nat.mul_comm (a/_%_)]
theorem mod_full {a k:Nat} (h:a<4294967296^k):a%4294967296^k=a:=Nat.mod_eq_of_lt h
def W (n:Nat):List Int:=if n=0 then [] else ((n%4294967296:Nat):Int)::W (n/4294967296)
termination_by n
decreasing_by omega
theorem W_zero:W 0 = []:=by rw [W];rfl
theorem W_pos {n:Nat} (h:n≠0):W n=((n%4294967296:Nat):Int)::W (n/4294967296):=by rw [W,if_neg h]
theorem W_ind {p:Nat→Prop} (h0:p 0) (h:∀ n,n≠0→p (n/4294967296)→p n) (n:Nat):p n:=by
  induction n using Nat.strongRecOn with
  | ind n ih=>
    by_cases hn:n=0
    · rw [hn];exact h0
    · exact h n hn (ih _ (by omega))
theorem wv_W (n:Nat):wv (W n)=n:=by
  refine W_ind (p:=fun n=>wv (W n)=n) (by rw [W_zero];rfl) (fun n hn ih=>?_) n
  rw [W_pos hn,wv,ih];omega
theorem W_wd (n:Nat):Wd (W n):=by
  refine W_ind (p:=fun n=>Wd (W n)) (by rw [W_zero];exact wd_nil) (fun n hn ih=>?_) n
  rw [W_pos hn]
  exact wd_cons (by omega) (by omega) ih
theorem W_nil {n:Nat}:W n = []↔n=0:=by
  constructor
  · intro h
    have:=wv_W n
    rw [h] at this;exact this.symm
  · rintro rfl;exact W_zero
theorem W_getD (n k:Nat):(W n).getD k 0=((dg n k:Nat):Int):=by
  refine W_ind (p:=fun n=>∀ k,(W n).getD k 0=((dg n k:Nat):Int)) (fun k=>?_) (fun n hn ih k=>?_) n k
  · rw [W_zero];simp [dg]
  · rw [W_pos hn]
    cases k with
    | zero=>rw [dg_zero];rfl
    | succ k=>rw [List.getD_cons_succ,ih,dg_succ]
theorem W_len_lt (n:Nat):n<4294967296^(W n).length:=by
  have:=wv_lt (W_wd n)
  rwa [wv_W] at this
theorem W_len_ge {n:Nat} (h:n≠0):4294967296^((W n).length-1)≤n:=by
  refine W_ind (p:=fun n=>n≠0→4294967296^((W n).length-1)≤n) (fun h=>absurd rfl h) (fun n hn ih _=>?_) n h
  rw [W_pos hn]
  by_cases hz:n/4294967296=0
  · rw [hz,W_zero];simp;omega
  · have h1:=ih hz
    have h2:(W (n/4294967296)).length≠0:=by
      intro e;exact hz (W_nil.1 (List.eq_nil_of_length_eq_zero e))
    rw [List.length_cons,Nat.add_sub_cancel,show (W (n/4294967296)).length=((W (n/4294967296)).length-1)+1 by omega,Nat.pow_succ]
    generalize 4294967296^((W (n/4294967296)).length-1)=P at *
    omega
theorem W_len_le {n k:Nat} (h:n<4294967296^k):(W n).length≤k:=by
  by_cases hn:n=0
  · rw [hn,W_zero];exact Nat.zero_le _
  · have:=Nat.lt_of_le_of_lt (W_len_ge hn) h
    have:=(Nat.pow_lt_pow_iff_right (a:=4294967296) (by omega)).1 this
    omega
theorem W_len_mono {m n:Nat} (h:m≤n):(W m).length≤(W n).length:=W_len_le (Nat.lt_of_le_of_lt h (W_len_lt n))
theorem W_len_log (n:Nat):(W n).length≤n.log2/32+1:=by
  by_cases hn:n=0
  · rw [hn,W_zero];exact Nat.zero_le _
  · refine W_len_le (Nat.lt_of_lt_of_le Nat.lt_log2_self ?_)
    rw [show (4294967296:Nat)=2^32 from rfl,← Nat.pow_mul]
    exact Nat.pow_le_pow_right (by omega) (by omega)
theorem W_of {l:List Int} (h:Wd l) (hl:l = []∨l.getD (l.length-1) 0≠0):l=W (wv l):=by
  induction l with
  | nil=>exact W_zero.symm
  | cons x l ih=>
    have hx:=wd_head h
    have hl':=hl.resolve_left (by simp)
    have step:l = []∨l.getD (l.length-1) 0≠0:=by
      cases l with
      | nil=>exact .inl rfl
      | cons y l=>right;simpa using hl'
    have ih:=ih (wd_tail h) step
    have hv:wv (x::l)=x.toNat+4294967296*wv l:=rfl
    have hne:wv (x::l)≠0:=by
      intro e
      rw [hv] at e
      have e1:wv l=0:=by omega
      rw [e1,W_zero] at ih
      subst ih
      have e2:x=0:=by omega
      exact hl' (by simpa using e2)
    rw [W_pos hne,hv,show (x.toNat+4294967296*wv l)%4294967296=x.toNat by omega,show (x.toNat+4294967296*wv l)/4294967296=wv l by omega,← ih]
    congr 1;omega
theorem wv_take {l:List Int} {k:Nat} (h:∀ j,k≤j→j<l.length→l.getD j 0=0):wv (l.take k)=wv l:=by
  induction l generalizing k with
  | nil=>simp
  | cons x l ih=>
    cases k with
    | zero=>
      have h0:=h 0 (by omega) (by simp)
      have hr:wv l=0:=by
        rw [← ih (k:=0) fun j hj hjl=>by have:=h (j+1) (by omega) (by simpa using hjl);simpa using this]
        rfl
      have hx:x=0:=by simpa using h0
      subst hx
      simp [wv,hr]
    | succ k=>
      rw [List.take_succ_cons]
      simp only [wv]
      rw [ih fun j hj hjl=>by have:=h (j+1) (by omega) (by simpa using hjl);simpa using this]
theorem W_take {l:List Int} {k:Nat} (h:Wd l) (hk:k≤l.length) (h0:∀ j,k≤j→j<l.length→l.getD j 0=0) (h1:k=0∨l.getD (k-1) 0≠0):l.take k=W (wv l):=by
  rw [← wv_take h0]
  refine W_of (wd_take h k) ?_
  rcases h1 with h1 | h1
  · subst h1;exact .inl rfl
  · by_cases hz:k=0
    · subst hz;exact .inl rfl
    · right
      rw [List.length_take,Nat.min_eq_left hk,List.getD_eq_getElem?_getD,List.getElem?_take,if_pos (by omega),← List.getD_eq_getElem?_getD]
      exact h1
theorem wv_dg {l:List Int} (h:Wd l) (k:Nat):((dg (wv l) k:Nat):Int)=l.getD k 0:=by
  induction l generalizing k with
  | nil=>simp [wv,dg]
  | cons x l ih=>
    have hx:=wd_head h
    have hv:wv (x::l)=x.toNat+4294967296*wv l:=rfl
    cases k with
    | zero=>rw [dg_zero,hv,List.getD_cons_zero];omega
    | succ k=>
      rw [dg_succ,hv,show (x.toNat+4294967296*wv l)/4294967296=wv l by omega,ih (wd_tail h),List.getD_cons_succ]
theorem wv_by {l:List Int} {R:Nat} (h:Wd l) (hR:R<4294967296^l.length) (hd:∀ k,k<l.length→l.getD k 0=((dg R k:Nat):Int)):wv l=R:=by
  induction l generalizing R with
  | nil=>simp at hR;simp [wv,hR]
  | cons x l ih=>
    have hx:=wd_head h
    have h0:=hd 0 (by simp)
    rw [dg_zero,List.getD_cons_zero] at h0
    have h1:=ih (R:=R/4294967296) (wd_tail h) (by
      rw [List.length_cons,Nat.pow_succ] at hR
      exact Nat.div_lt_of_lt_mul (by rw [Nat.mul_comm];exact hR)) fun k hk=>by
      have:=hd (k+1) (by simpa using hk)
      rwa [List.getD_cons_succ,dg_succ] at this
    simp only [wv,h1]
    omega
end Go.Eng
/-
  Whole numbers of any size behind pointers: the struct's block and the words' block together, as one item of memory that stands for a whole number. No condition.
-/
namespace Go.Eng
open Go
open Go.RowKit (Below)
def wds (z:Int):List Value:=(W z.natAbs).map (Value.int .u32)
def bgR (I r:Nat) (a:Option Addr) (n c:Nat) (z:Int) (w:World):Prop:=
  (cl r [.bool (decide (z<0)),.slice a n c] I).A w∧rdA (wds z) a n c w
def bgA (I E r:Nat) (a:Option Addr) (n c:Nat) (z:Int) (w:World):Prop:=
  (cl r [.bool (decide (z<0)),.slice a n c] I).A w∧slA a n c (wds z) E w∧∀ x,a=some x→x.block≠r
def bg (I E r:Nat) (a:Option Addr) (n c:Nat) (z:Int):It:=
  ⟨true,fun b=>b=r∨∃ x,a=some x∧x.block=b,bgA I E r a n c z,fun w w' hw h=>
    ⟨(cl r _ I).st w w' (fun b hb=>hw b (.inl hb)) h.1,(sl a n c (wds z) E).st w w' (fun b hb=>hw b (.inr hb)) h.2.1,h.2.2⟩⟩
theorem bgA.rd {I E r n c:Nat} {a:Option Addr} {z:Int} {w:World} (h:bgA I E r a n c z w):bgR I r a n c z w:=⟨h.1,h.2.1.rd⟩
theorem Ent.bg {L:List It} {I E r n c:Nat} {a:Option Addr} {z:Int} (h:Go.Eng.bg I E r a n c z∈L):Ent L (bgR I r a n c z):=(Ent.of h).imp fun _ k=>bgA.rd k
theorem Ent.bgS {L:List It} {I r n c:Nat} {a:Option Addr} {z:Int} (h:Ent L (bgR I r a n c z)):Ent L (cl r [.bool (decide (z<0)),.slice a n c] I).A:=h.imp fun _ k=>k.1
theorem Ent.bgW {L:List It} {I r n c:Nat} {a:Option Addr} {z:Int} (h:Ent L (bgR I r a n c z)):Ent L (rdA ((W z.natAbs).map (Value.int .u32)) a n c):=h.imp fun _ k=>k.2
section
variable {w0 w:World} {L:List It} {I E r n c:Nat} {a:Option Addr} {z:Int}
theorem Ho.bgOpen (h:Ho w0 w (bg I E r a n c z::L)):Ho w0 w (cl r [.bool (decide (z<0)),.slice a n c] I::sl a n c ((W z.natAbs).map (Value.int .u32)) E::L):=by
  have hA:bgA I E r a n c z w:=h.hold _ (List.mem_cons_self ..)
  have hsep:=List.pairwise_cons.1 h.sep
  refine ⟨h.below,fun e he=>?_,fun e he b hb=>?_,fun e he ho b hb=>?_,?_⟩
  · rcases List.mem_cons.1 he with rfl | he
    · exact hA.1
    rcases List.mem_cons.1 he with rfl | he
    · exact hA.2.1
    · exact h.hold e (List.mem_cons_of_mem _ he)
  · rcases List.mem_cons.1 he with rfl | he
    · exact h.lt _ (List.mem_cons_self ..) b (.inl hb)
    rcases List.mem_cons.1 he with rfl | he
    · exact h.lt _ (List.mem_cons_self ..) b (.inr hb)
    · exact h.lt e (List.mem_cons_of_mem _ he) b hb
  · rcases List.mem_cons.1 he with rfl | he
    · exact h.new _ (List.mem_cons_self ..) rfl b (.inl hb)
    rcases List.mem_cons.1 he with rfl | he
    · exact h.new _ (List.mem_cons_self ..) rfl b (.inr hb)
    · exact h.new e (List.mem_cons_of_mem _ he) ho b hb
  · refine List.pairwise_cons.2 ⟨fun e he _ b hb hb'=>?_,List.pairwise_cons.2 ⟨fun e he _ b hb hb'=>hsep.1 e he (.inl rfl) b (.inr hb) hb',hsep.2⟩⟩
    rcases List.mem_cons.1 he with rfl | he
    · obtain ⟨x,hx,rfl⟩:=hb'
      exact hA.2.2 x hx hb
    · exact hsep.1 e he (.inl rfl) b (.inl hb) hb'
theorem Ho.bgShut {s:Bool} {l:List Int} (h:Ho w0 w (cl r [.bool s,.slice a n c] I::sl a n c (l.map (Value.int .u32)) E::L)) (hs:s=decide (z<0)) (hl:l=W z.natAbs):Ho w0 w (bg I E r a n c z::L):=by
  subst hs hl
  have hsep:=List.pairwise_cons.1 h.sep
  have hsep2:=List.pairwise_cons.1 hsep.2
  refine ⟨h.below,fun e he=>?_,fun e he b hb=>?_,fun e he ho b hb=>?_,List.pairwise_cons.2 ⟨fun e he _ b hb hb'=>?_,hsep2.2⟩⟩
  · rcases List.mem_cons.1 he with rfl | he
    · refine ⟨h.hold _ (List.mem_cons_self ..),h.hold _ (List.mem_cons_of_mem _ (List.mem_cons_self ..)),fun x hx e=>?_⟩
      exact hsep.1 _ (List.mem_cons_self ..) (.inl rfl) r rfl ⟨x,hx,e⟩
    · exact h.hold e (List.mem_cons_of_mem _ (List.mem_cons_of_mem _ he))
  · rcases List.mem_cons.1 he with rfl | he
    · rcases hb with hb | hb
      · exact h.lt _ (List.mem_cons_self ..) b hb
      · exact h.lt _ (List.mem_cons_of_mem _ (List.mem_cons_self ..)) b hb
    · exact h.lt e (List.mem_cons_of_mem _ (List.mem_cons_of_mem _ he)) b hb
  · rcases List.mem_cons.1 he with rfl | he
    · rcases hb with hb | hb
      · exact h.new _ (List.mem_cons_self ..) rfl b hb
      · exact h.new _ (List.mem_cons_of_mem _ (List.mem_cons_self ..)) rfl b hb
    · exact h.new e (List.mem_cons_of_mem _ (List.mem_cons_of_mem _ he)) ho b hb
  · rcases hb with hb | hb
    · exact hsep.1 e (List.mem_cons_of_mem _ he) (.inl rfl) b hb hb'
    · exact hsep2.1 e he (.inl rfl) b hb hb'
theorem Ho.bgNew (h:Ho w0 w (cl r [.bool false,.slice Option.none 0 0] I::L)):Ho w0 w (bg I E r Option.none 0 0 0::L):=by
  have h1:Ho w0 w (sl Option.none 0 0 (([]:List Int).map (Value.int .u32)) E::cl r [.bool false,.slice Option.none 0 0] I::L):=h.none
  have h2:=h1.perm (List.Perm.swap _ _ L)
  exact Ho.bgShut (s:=false) (l:=[]) h2 rfl W_zero.symm
theorem Ho.drop3 {x y z:It} (h:Ho w0 w (x::y::z::L)):Ho w0 w (x::y::L):=h.sub (((List.sublist_cons_self z L).cons_cons y).cons_cons x)
end
theorem Ho.cut {α:Type} {enc:α→Value} {ws:List α} {hi:Int} {w0 w:World} {L:List It} {a:Option Addr} {n c t:Nat} (hS:Ho w0 w (sl a n c (ws.map enc) t::L)) (h:hi.toNat≤ws.length) :
    Ho w0 w (sl (slBase a 0 c 1) hi.toNat c (((ws.drop (0:Int).toNat).take (hi.toNat-(0:Int).toNat)).map enc) t::L):=by
  rw [slBase0]
  have hA:slA a n c (ws.map enc) t w:=hS.hold _ (List.mem_cons_self ..)
  have e:(ws.drop (0:Int).toNat).take (hi.toNat-(0:Int).toNat)=ws.take hi.toNat:=by simp
  rw [e]
  refine hS.put rfl (Below.refl _ _) (fun _ _ _=>rfl) ?_ (fun b hb=>hS.lt _ (List.mem_cons_self ..) b hb) fun b hb => .inl hb
  refine ⟨by simp;omega,?_⟩
  rcases hA.2 with ⟨h1,h2,h3⟩ | ⟨r,z,h1,h2,h3⟩
  · left
    have:ws = []:=by simpa using h3
    subst this
    exact ⟨h1,h2,by simp⟩
  · right
    refine ⟨r,(ws.drop hi.toNat).map enc++z,h1,?_,?_⟩
    · rw [← List.append_assoc,← List.map_append,List.take_append_drop];exact h2
    · simp at h3 ⊢;omega
def copL {α:Type} (d s:List α):List α:=s.take d.length++d.drop s.length
theorem copL_len {α:Type} (d s:List α):(copL d s).length=d.length:=by unfold copL;simp;omega
theorem cop_s {α:Type} {enc:α→Value} {ws ks:List α} {w0 w:World} {L:List It} {a b:Option Addr} {n c m cb t:Nat} {K:World→Prop} (hS:Ho w0 w (sl a n c (ws.map enc) t::L)) (hk:rdA (ks.map enc) b m cb w) (hv:∀ y,cellV (enc y)=true)
    (hK:∀ w':World,Ho w0 w' (sl a n c ((copL ws ks).map enc) t::L)→K w'):copM 1 a n b m w K:=by
  have hA:slA a n c (ws.map enc) t w:=hS.hold _ (List.mem_cons_self ..)
  have hm:m=ks.length:=by rw [hk.len,List.length_map]
  have hn:n=ws.length:=by rw [hA.1,List.length_map]
  have hlen:((ks.take ws.length).map enc).length=min m n:=by simp;omega
  refine ⟨(ks.take ws.length).map enc,by rw [hlen,Nat.mul_one],?_,?_⟩
  · have hr:=hk.row
    cases b with
    | none=>
      have:ks = []:=by simpa [rowOf] using hr
      subst this;simp [rowOf]
    | some x=>
      intro i hi
      have hi':i<(ks.map enc).length:=by simp at hi ⊢;omega
      have:=hr i hi'
      rw [this]
      have h1:i<ws.length:=by simp at hi;omega
      simp [List.getElem?_take,h1]
  · obtain ⟨_,⟨rfl,rfl,he⟩ | ⟨r,z,rfl,hr,hc⟩⟩:=hA
    · have h1:ws = []:=by simpa using he
      subst h1
      refine hK _ ?_
      have:copL ([]:List α) ks = []:=by unfold copL;simp
      rw [this];exact hS
    · have hlt:r<w.heap.size:=by
        rcases Nat.lt_or_ge r w.heap.size with h1 | h1
        · exact h1
        · rw [Array.getElem?_eq_none h1] at hr;cases hr
      have hnew:w0.heap.size≤r:=hS.new _ (List.mem_cons_self ..) rfl r ⟨_,rfl,rfl⟩
      have hst:St w0 w [(r,(ws.map enc++z).toArray,t)]:=⟨hS.below,fun e he=>by
        simp only [List.mem_singleton] at he;subst he;exact ⟨hnew,hr⟩,List.pairwise_singleton _ _⟩
      obtain ⟨k1,k2⟩:=setOwn (A:=[]) (B:=[]) (vs:=(ks.take ws.length).map enc) (o:=0) (i:=0) hst (by simp;omega) (by intro v hv';obtain ⟨y,_,rfl⟩:=List.mem_map.1 hv';exact hv y)
      refine ⟨k1,hK _ ?_⟩
      have pr:=putRow_app ((ks.take ws.length).map enc) [] (ws.map enc++z) (by simp;omega)
      rw [show 0+0=([]:List Value).length from rfl] at k2
      rw [List.nil_append,List.nil_append] at pr
      rw [pr] at k2
      have hown:=(k2.own _ (List.mem_singleton.2 rfl)).2
      have hbel:=app_s.setRow_other ((ks.take ws.length).map enc) r 0 0 w
      refine hS.put rfl ⟨hbel.1,hbel.2.1,hbel.2.2.1,by rw [hbel.2.2.2.1];exact Nat.le_refl _,fun k hk'=>hbel.2.2.2.2 k (by omega)⟩ (fun b hb hne=>hbel.2.2.2.2 b (fun e=>hne ⟨_,rfl,e.symm⟩)) ⟨by rw [List.length_map,copL_len];exact hn,.inr ⟨r,z,rfl,?_,by rw [List.length_map,copL_len];simpa using hc⟩⟩ (fun b hb=>?_) fun b hb => .inl hb
      · rw [hown]
        have e:(ws.map enc++z).drop ((ks.take ws.length).map enc).length=(ws.drop ks.length).map enc++z:=by
          rcases Nat.le_total ks.length ws.length with h | h
          · rw [show ((ks.take ws.length).map enc).length=ks.length by simp;omega,List.drop_append_of_le_length (by simpa using h),List.map_drop]
          · rw [show ((ks.take ws.length).map enc).length=(ws.map enc).length by simp;omega,List.drop_left,List.drop_of_length_le (l:=ws) h]
            rfl
        rw [e]
        unfold copL
        rw [List.map_append,List.append_assoc]
      · obtain ⟨x,hx,rfl⟩:=hb
        cases hx
        rw [hbel.2.2.2.1];exact hlt
def bgOk (z:Int):Option Int:=if z.natAbs.log2<34359738368 then some z else none
theorem bgOk_e {z y:Int} (h:bgOk z=some y):z=y∧z.natAbs.log2<34359738368:=by
  unfold bgOk at h
  split at h
  · exact ⟨Option.some.inj h,by assumption⟩
  · cases h
theorem bgOk_t {z:Int} (h:z.natAbs.log2<34359738368):bgOk z=some z:=if_pos h
end Go.Eng
/-
  What the methods of whole numbers of any size reckon, as functions of whole numbers. No condition.
-/
set_option maxRecDepth 100000
set_option maxHeartbeats 4000000
namespace Go.Eng
open Go
def tzF:Nat→Nat→Nat
  | 0,_=>0
  | f+1,n=>if n%2=1 then 0 else tzF f (n/2)+1
def tzN (n:Nat):Nat:=if n=0 then 0 else tzF (n.log2+1) n
theorem tzN_eq (n:Nat):tzN n=if n=0 then 0 else if n%2=1 then 0 else tzN (n/2)+1:=by
  by_cases h0:n=0
  · rw [if_pos h0];unfold tzN;rw [if_pos h0]
  · rw [if_neg h0]
    have e:tzN n=tzF (n.log2+1) n:=by unfold tzN;rw [if_neg h0]
    rw [e,tzF]
    by_cases h1:n%2=1
    · rw [if_pos h1,if_pos h1]
    · have h2:n/2≠0:=by omega
      have el:n.log2=(n/2).log2+1:=by rw [Nat.log2_def,if_pos (by omega)]
      have e2:tzN (n/2)=tzF ((n/2).log2+1) (n/2):=by unfold tzN;rw [if_neg h2]
      rw [if_neg h1,if_neg h1,e2,el]
def blN (n:Nat):Nat:=if n=0 then 0 else n.log2+1
def bigSign (z:Int):Option Int:=some (if z<0 then -1 else if z=0 then 0 else 1)
def bigCmp (x y:Int):Option Int:=(bgOk x).bind fun x=>(bgOk y).bind fun y=>some (if x<y then -1 else if x=y then 0 else 1)
def bigTrailingZeroBits (z:Int):Option Int:=(bgOk z).bind fun z=>some ((tzN z.natAbs:Nat):Int)
def bigBitLen (z:Int):Option Int:=(bgOk z).bind fun z=>some ((blN z.natAbs:Nat):Int)
def bigUint64 (z:Int):Option Int:=some ((z.natAbs%18446744073709551616:Nat):Int)
def bigSetInt64 (n:Int):Option Int:=if -9223372036854775808≤n∧n<9223372036854775808 then some n else none
def bigSetUint64 (n:Int):Option Int:=if 0≤n∧n<18446744073709551616 then some n else none
def bigNeg (z:Int):Option Int:=(bgOk z).bind fun z=>some (-z)
def bigAbs (z:Int):Option Int:=(bgOk z).bind fun z=>some (z.natAbs:Int)
def bigLsh (z n:Int):Option Int:=if 0≤n∧n<34359738368 then (bgOk z).bind fun z=>bgOk (z*((2^n.toNat:Nat):Int)) else none
def bigRsh (z n:Int):Option Int:=if 0≤z∧0≤n∧n<18446744073709551616 then (bgOk z).bind fun z=>some ((z.natAbs/2^n.toNat:Nat):Int) else none
def bigAdd (x y:Int):Option Int:=(bgOk x).bind fun x=>(bgOk y).bind fun y=>some (x+y)
def bigSub (x y:Int):Option Int:=(bgOk x).bind fun x=>(bgOk y).bind fun y=>some (x-y)
def bigMul (x y:Int):Option Int:=(bgOk x).bind fun x=>(bgOk y).bind fun y=>some (x*y)
def bigAnd (x y:Int):Option Int:=if 0≤x∧0≤y then (bgOk x).bind fun x=>(bgOk y).bind fun y=>some ((x.natAbs &&& y.natAbs:Nat):Int) else none
def bigOr (x y:Int):Option Int:=if 0≤x∧0≤y then (bgOk x).bind fun x=>(bgOk y).bind fun y=>some ((x.natAbs ||| y.natAbs:Nat):Int) else none
theorem tzN_low {n:Nat} (h0:n≠0):2^tzN n≤n:=by
  induction n using Nat.strongRecOn with
  | ind n ih=>
    by_cases h1:n%2=1
    · rw [tzN_eq,if_neg h0,if_pos h1];omega
    · rw [tzN_eq,if_neg h0,if_neg h1,Nat.pow_succ]
      have:=ih (n/2) (by omega) (by omega)
      omega
theorem bitLen_bl {x:Nat} (h:x<18446744073709551616):Lib.bitLen x=blN x:=by
  have key:∀ f x,x<2^f→Lib.bitLenAux f x=blN x:=by
    intro f
    induction f with
    | zero=>
        intro x hx;have:x=0:=by simpa using hx
        subst this;rfl
    | succ f ih=>
      intro x hx
      unfold Lib.bitLenAux
      by_cases h0:x=0
      · rw [if_pos h0,h0];rfl
      · rw [if_neg h0,ih (x/2) (by rw [Nat.pow_succ] at hx;omega)]
        unfold blN
        rw [if_neg h0]
        by_cases h1:x/2=0
        · have:x=1:=by omega
          subst this;decide
        · rw [if_neg h1,Nat.log2_def x,if_pos (by omega)];omega
  exact key 64 x h
end Go.Eng
