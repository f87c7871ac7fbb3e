/-
  Lists of structs of three cells (a truth value, a list of words, a whole number): the structs in one block, their lists readable by themselves. No condition.
-/
import Derived.Test.YtlnelldekejadaaGreatTw4
set_option linter.all false
open List renaming length_append→AA,replicate_append_replicate→AC,mem_cons_self→AD,length_set→AF,replicate_succ'→AH,mem_singleton→AI
open Nat renaming le_refl→AB,le_of_ble_eq_true→AG
open Go.Value renaming int→AE,bool→AJ
namespace Go.Eng
open Go
open Go.RowKit (Below)
abbrev Dy:=Bool×List Int×Int
def dyC:List Dy→List Hd→List Value
 | x::X,h::H => .bool x.1::hdV h :: .int .i64 x.2.2::dyC X H
 | _,_=>[]
inductive AllD (L:List It):List Dy→List Hd→Prop
 | nil:AllD L [] []
 | cons {x:Dy} {h:Hd} {X:List Dy} {H:List Hd}:Ent L (rdA (x.2.1.map (AE .u64)) h.1 h.2.1 h.2.2)→AllD L X H→AllD L (x::X) (h::H)
section
variable {L L':List It} {X Y:List Dy} {H G:List Hd}
theorem AllD.mono (h:AllD L X H) (hL:∀ e,e∈L→e∈L'):AllD L' X H:=by
 induction h with
 | nil=>exact .nil
 | cons h _ ih=>exact .cons (h.mono hL) ih
theorem AllD.len (h:AllD L X H):X.length=H.length:=by
 induction h with
 | nil=>rfl
 | cons _ _ ih=>simp [ih]
theorem AllD.get (h:AllD L X H):∀ {i:Nat} {t:Dy},X[i]?=some t→∃ g,H[i]?=some g∧Ent L (rdA (t.2.1.map (AE .u64)) g.1 g.2.1 g.2.2):=by
 induction h with
 | nil=>intro i t h;simp at h
 | cons h _ ih=>
   intro i t hx
   cases i with
   | zero=>simp at hx;subst hx;exact ⟨_,rfl,h⟩
   | succ i=>exact ih (by simpa using hx)
theorem AllD.append (h:AllD L X H) (k:AllD L Y G):AllD L (X++Y) (H++G):=by
 induction h with
 | nil=>exact k
 | cons h _ ih=>exact .cons h ih
theorem AllD.one {x:Dy} {h:Hd} (k:Ent L (rdA (x.2.1.map (AE .u64)) h.1 h.2.1 h.2.2)):AllD L [x] [h] := .cons k .nil
theorem AllD.set (h:AllD L X H) {x:Dy} {g:Hd} (k:Ent L (rdA (x.2.1.map (AE .u64)) g.1 g.2.1 g.2.2)):∀ i:Nat,AllD L (X.set i x) (H.set i g):=by
 induction h with
 | nil=>intro i;exact .nil
 | cons h b ih=>
   intro i
   cases i with
   | zero=>exact .cons k b
   | succ i=>exact .cons h (ih i)
theorem AllD.repl {b:Bool} {e:Int}:∀ n:Nat,AllD L (List.replicate n (b,[],e)) (List.replicate n (none,0,0))
 | 0 => .nil
 | n+1 => .cons (Ent.nil (enc:=AE .u64) _) (AllD.repl n)
theorem AllD.both {x y:It} (h:AllD (x::y::L) X H):AllD (Go.Eng.both x y::L) X H:=by
 induction h with
 | nil=>exact .nil
 | cons h _ ih=>exact .cons h.both ih
theorem Al7:∀ {X:List Dy} {H:List Hd},X.length=H.length→(dyC X H).length=X.length*3
 | [],[],_=>rfl
 | [],_::_,h=>by simp at h
 | _::_,[],h=>by simp at h
 | x::X,k::H,h=>by
   have:=Al7 (X:=X) (H:=H) (by simpa using h)
   simp only [dyC,List.length_cons,this];omega
theorem Cx0:∀ {X:List Dy} {H:List Hd},X.length=H.length→dyC (X++Y) (H++G)=dyC X H++dyC Y G
 | [],[],_=>rfl
 | [],_::_,h=>by simp at h
 | _::_,[],h=>by simp at h
 | x::X,k::H,h=>by
   have:=Cx0 (X:=X) (H:=H) (by simpa using h)
   simp only [List.cons_append,dyC,this]
theorem Cp3:∀ {X:List Dy} {H:List Hd} {i:Nat} {x:Dy} {g:Hd},X[i]?=some x→H[i]?=some g→(dyC X H)[i*3]?=some (.bool x.1)∧(dyC X H)[i*3+1]?=some (hdV g)∧(dyC X H)[i*3+2]?=some (.int .i64 x.2.2)
 | [],_,_,_,_,h,_=>by simp at h
 | _::_,[],_,_,_,_,h=>by simp at h
 | x::X,k::H,0,_,_,b,d=>by
   simp at b d;subst b;subst d
   exact ⟨rfl,rfl,rfl⟩
 | x::X,k::H,i+1,_,_,b,d=>by
   have:=Cp3 (X:=X) (H:=H) (i:=i) (by simpa using b) (by simpa using d)
   have e:(i+1)*3=i*3+3:=by omega
   rw [e]
   exact this
theorem Fn2:∀ {X:List Dy} {H:List Hd} {i:Nat} {x:Dy} {g:Hd},X.length=H.length→(((dyC X H).set (i*3) (.bool x.1)).set (i*3+1) (hdV g)).set (i*3+2) (.int .i64 x.2.2)=dyC (X.set i x) (H.set i g)
 | [],[],_,_,_,_=>rfl
 | [],_::_,_,_,_,h=>by simp at h
 | _::_,[],_,_,_,h=>by simp at h
 | x::X,k::H,0,_,_,_=>rfl
 | x::X,k::H,i+1,y,g,h=>by
   have:=Fn2 (X:=X) (H:=H) (i:=i) (x:=y) (g:=g) (by simpa using h)
   have b:(i+1)*3=i*3+3:=by omega
   rw [b]
   simp only [List.set_cons_succ,dyC]
   rw [← this]
variable {a:Option Addr} {n c:Nat} {w w0:World} {i:Int} {x:Dy} {g:Hd}
theorem AllD.atE {t:Dy} (h:AllD L X H) (hx:atI X i=some t):∃ g,H[i.toNat]?=some g∧X[i.toNat]?=some t∧0≤i∧i.toNat<X.length∧Ent L (rdA (t.2.1.map (AE .u64)) g.1 g.2.1 g.2.2):=by
 obtain ⟨b,d,e⟩:=Go.Eng.atE hx
 obtain ⟨g,f,j⟩:=h.get b
 exact ⟨g,f,b,d,e,j⟩
theorem Eu8 {v:Int} (h:some (((X.length:Nat)):Int)=some v) (ha:X.length=H.length) (hr:rdA (dyC X H) a (n*3) (c*3) w):((n:Nat):Int)=v:=by
 have e:=hr.len
 rw [Al7 ha] at e
 have b:n=X.length:=by omega
 rw [b];exact Option.some.inj h
theorem Ah3 {K:Addr→Prop} (ha:X.length=H.length) (hr:rdA (dyC X H) a (n*3) (c*3) w) (d:0≤i) (f:i.toNat<X.length) (hk:∀ b:Addr,a=some b→K b):(0:Int)≤i∧i<(n:Nat)∧Ab6 a K:=by
 have e:=hr.len
 rw [Al7 ha] at e
 have hn:n=X.length:=by omega
 refine ⟨d,by omega,?_⟩
 obtain ⟨y,hy,_⟩:=hr.at_ (i.toNat*3) (by omega)
 subst hy
 exact hk y rfl
theorem Do1 {vs:List Value} {b:Addr} {k:Nat} {v:Value} (hr:rdA vs a n c w) (hb:a=some b) (hv:vs[k]?=some v):w.cell? (b.add k)=some v:=by
 have hl:k<vs.length:=by
  rcases Nat.lt_or_ge k vs.length with d | d
  · exact d
  · rw [List.getElem?_eq_none d] at hv;cases hv
 obtain ⟨y,hy,hc⟩:=hr.at_ k (by rw [hr.len];exact hl)
 rw [hb] at hy;cases hy
 rw [hc,hv]
theorem Bq3 {b:Addr} (hr:rdA (dyC X H) a n c w) (hb:a=some b) (hx:X[i.toNat]?=some x) (hg:H[i.toNat]?=some g):w.cell? (b.add (i.toNat*3))=some (.bool x.1):=Do1 hr hb (Cp3 hx hg).1
theorem Bm9 {b:Addr} (hr:rdA (dyC X H) a n c w) (hb:a=some b) (hx:X[i.toNat]?=some x) (hg:H[i.toNat]?=some g):w.cell? ((b.add (i.toNat*3)).add 1)=some (.slice g.1 g.2.1 g.2.2):=by
 rw [Br8];exact Do1 hr hb (Cp3 hx hg).2.1
theorem Bj1 {b:Addr} (hr:rdA (dyC X H) a n c w) (hb:a=some b) (hx:X[i.toNat]?=some x) (hg:H[i.toNat]?=some g):w.cell? ((b.add (i.toNat*3)).add 2)=some (.int .i64 x.2.2):=by
 rw [Br8];exact Do1 hr hb (Cp3 hx hg).2.2
theorem Cz2 {K:Prop} (ha:X.length=H.length) (hr:rdA (dyC X H) a (n*3) (c*3) w) (b:0≤i) (d:i.toNat<X.length) (hk:K):(0:Int)≤i∧i<(n:Nat)∧K:=by
 have e:=hr.len
 rw [Al7 ha] at e
 exact ⟨b,by omega,hk⟩
theorem Ad4 {x:It} (h:x∈L'):∀ e,e ∈ [x]→e∈L':=fun e he=>by
 rw [AI] at he;subst he;exact h
theorem Ent.nilD (L:List It):Ent L (rdA (dyC [] []) none (0*3) (0*3)):=fun _ _=>⟨rfl,AB _,fun i hi=>by omega⟩
theorem Fc0 {vs:List Value} {b:Addr} {k t:Nat} {v:Value} {K:World→Prop} (hS:Ho w0 w (sl a n c vs t::L)) (hb:a=some b) (d:k<vs.length)
 (hk:∀ w':World,Ho w0 w' (sl a n c (vs.set k v) t::L)→K w'):stM (b.add k) v w K:=by
 have:=Aw7 (ws:=vs) (enc:=fun v=>v) (i:=(k:Int)) (y:=v) (K:=K) (L:=L) (n:=n) (c:=c) (t:=t) (w:=w) (w0:=w0) (a:=a) (by simpa using hS) hb (by simpa using d) (by simpa using hk)
 simpa using this
theorem Cw1 {b:Addr} {t:Nat} {K:World→Prop} (hS:Ho w0 w (sl a n c (dyC X H) t::L)) (ha:X.length=H.length) (hb:a=some b) (j:i.toNat<X.length)
 (hk:∀ w':World,Ho w0 w' (sl a n c (dyC (X.set i.toNat x) (H.set i.toNat g)) t::L)→K w') :
 stM (b.add (i.toNat*3)) (.bool x.1) w fun d=>stM ((b.add (i.toNat*3)).add 1) (.slice g.1 g.2.1 g.2.2) d fun f=>stM ((b.add (i.toNat*3)).add 2) (.int .i64 x.2.2) f K:=by
 have hl:=Al7 ha
 refine Fc0 hS hb (by rw [hl];omega) fun d h1'=>?_
 rw [Br8]
 refine Fc0 h1' hb (by rw [AF,hl];omega) fun f h2'=>?_
 rw [Br8]
 refine Fc0 h2' hb (by rw [AF,AF,hl];omega) fun h h3'=>?_
 have e:=Fn2 (i:=i.toNat) (x:=x) (g:=g) ha
 unfold hdV at e
 rw [e] at h3'
 exact hk h h3'
theorem Bm3 {m e:Nat} {K:Addr→World→Prop} (hS:Ho w0 w L) {cs:Array Value} (hc:cs.toList=dyC X H) (ha:X.length=H.length) (hm:X.length=m)
 (hk:∀ (r:Nat) (w':World),Ho w0 w' (sl (some ⟨r,0,none⟩) (m*3) (m*3) (dyC X H) e::L)→K ⟨r,0,none⟩ w'):Ac8 cs e w K:=by
 have hl:=Al7 ha
 have:=Ba4 (ks:=dyC X H) (enc:=fun v=>v) (m:=m*3) (e:=e) (K:=K) hS (cs:=cs) (by simpa using hc) (by rw [hl,hm]) (by simpa using hk)
 exact this
theorem Gz5 (k j:Nat) (h:j<3):(k*3+j)%3=j:=by omega
theorem Gh5 (n:Nat):Cz6 (n*3) #[.bool false,.slice none 0 0,.int .i64 0]=(dyC (List.replicate n (false,[],0)) (List.replicate n (none,0,0))).toArray:=by
 induction n with
 | zero=>simp [Cz6,dyC]
 | succ n ih=>
   have e:(n+1)*3=n*3+1+1+1:=by omega
   have b:(dyC (List.replicate (n+1) (false,[],0)) (List.replicate (n+1) ((none:Option Addr),0,0)))=dyC (List.replicate n (false,[],0)) (List.replicate n (none,0,0)) ++ [.bool false,.slice none 0 0,.int .i64 0]:=by
    rw [AH,AH,Cx0 (by simp)];rfl
   rw [e,b]
   unfold Cz6 at ih ⊢
   rw [Array.range_succ,Array.range_succ,Array.range_succ,Array.map_append,Array.map_append,Array.map_append,ih]
   have d:n*3%(#[AJ false,.slice none 0 0,.int .i64 0]:Array Value).size=0:=Gz5 n 0 (by omega)
   have f:(n*3+1)%(#[AJ false,.slice none 0 0,.int .i64 0]:Array Value).size=1:=Gz5 n 1 (by omega)
   have h:(n*3+1+1)%(#[AJ false,.slice none 0 0,.int .i64 0]:Array Value).size=2:=Gz5 n 2 (by omega)
   simp [Nat.mul_mod_left,Nat.add_mod]
theorem Fq1 {l c:Int} {e bytes:Nat} {K:Addr→World→Prop} (hS:Ho w0 w L) (h:0≤l∧l≤c∧c≤1099511627776) (hb:Nat.ble bytes 256=true)
 (hk:∀ (r:Nat) (w':World),Ho w0 w' (sl (some ⟨r,0,none⟩) (l.toNat*3) (c.toNat*3) (dyC (List.replicate l.toNat (false,[],0)) (List.replicate l.toNat (none,0,0))) e::L)→K ⟨r,0,none⟩ w'):mkM e 3 bytes #[.bool false,.slice none 0 0,.int .i64 0] l c w K:=by
 have hb':bytes≤256:=AG hb
 refine ⟨h.1,h.2.1,h.2.2,?_,hk _ _ ?_⟩
 · have j:c*(bytes:Int)≤1099511627776*(256:Int):=Int.mul_le_mul h.2.2 (by omega) (by omega) (by omega)
   omega
 · rw [Gh5]
   have d:c.toNat=l.toNat+(c.toNat-l.toNat):=by omega
   have f:dyC (List.replicate c.toNat (false,[],0)) (List.replicate c.toNat ((none:Option Addr),0,0))=dyC (List.replicate l.toNat (false,[],0)) (List.replicate l.toNat (none,0,0))++dyC (List.replicate (c.toNat-l.toNat) (false,[],0)) (List.replicate (c.toNat-l.toNat) (none,0,0)):=by
    rw [← Cx0 (by simp),AC,AC,← d]
   refine hS.more ((Below.refl _ _).alloc (AB _) _) ⟨by rw [Al7 (by simp)];simp,.inr ⟨_,dyC (List.replicate (c.toNat-l.toNat) (false,[],0)) (List.replicate (c.toNat-l.toNat) (none,0,0)),rfl,?_,by rw [Al7 (by simp),Al7 (by simp)];simp;omega⟩⟩ (fun b hb=>?_) fun b hb=>?_
   · show (w.heap.push _)[w.heap.size]?=_
     rw [f]
     simp
   · obtain ⟨x,hx,rfl⟩:=hb
     cases hx
     show w.heap.size<(w.heap.push _).size
     simp
   · obtain ⟨x,hx,rfl⟩:=hb
     cases hx
     exact AB _
theorem Ho.noneD {t:Nat} (hS:Ho w0 w L):Ho w0 w (Go.Eng.sl Option.none (0*3) (0*3) (dyC [] []) t::L):=
 hS.void ⟨rfl,.inl ⟨rfl,rfl,rfl⟩⟩ fun b hb=>by obtain ⟨x,hx,_⟩:=hb;cases hx
theorem Fu0 (n:Nat) (z:Array Value):(Cz6 n z).size=n:=by simp [Cz6]
theorem Ep5:∀ (X:List Dy) (H:List Hd),∀ v∈dyC X H,Cu7 v=true
 | [],_,v,h=>by simp [dyC] at h
 | _::_,[],v,h=>by simp [dyC] at h
 | x::X,k::H,v,h=>by
   simp only [dyC,List.mem_cons] at h
   rcases h with rfl | rfl | rfl | h
   · rfl
   · rfl
   · rfl
   · exact Ep5 X H v h
theorem Fu5 {vs ks:List Value} {m c' d t:Nat} {z:Array Value} (hS:Ho w0 w L) (hz:z.size=3) (hn:n*3=vs.length) (hm:m*3=ks.length) (hc:n+m≤c') :
 Ho w0 ((w.drewN d).alloc (.cells ((vs++ks).toArray++Cz6 ((c'-(n+m))*z.size) z) t)) (sl (some (nxt w)) ((n+m)*3) (c'*3) (vs++ks) t::L):=by
 have hb:Below w.heap.size w ((w.drewN d).alloc (.cells ((vs++ks).toArray++Cz6 ((c'-(n+m))*z.size) z) t)):=
  Below.alloc (a:=w) (w:=w.drewN d) ⟨rfl,rfl,rfl,AB _,fun _ _=>rfl⟩ (AB _) _
 have hzl:(Cz6 ((c'-(n+m))*z.size) z).toList.length=(c'-(n+m))*3:=by rw [Array.length_toList,Fu0,hz]
 refine hS.more hb ⟨by rw [AA];omega,.inr ⟨_,(Cz6 ((c'-(n+m))*z.size) z).toList,rfl,?_,by rw [AA,hzl];omega⟩⟩ (fun b hb=>?_) fun b hb=>?_
 · show ((w.drewN d).heap.push _)[w.heap.size]?=_
   have:(w.drewN d).heap.size=w.heap.size:=rfl
   rw [← this]
   simp
 · obtain ⟨x,hx,rfl⟩:=hb
   cases hx
   show w.heap.size<((w.drewN d).heap.push _).size
   simp
 · obtain ⟨x,hx,rfl⟩:=hb
   cases hx
   exact AB _
theorem Gs8 {vs ks:List Value} {b:Option Addr} {m cb t bytes:Nat} {z:Array Value} {K:Option Addr→Nat→Nat→World→Prop} (hS:Ho w0 w (sl a (n*3) (c*3) vs t::L)) (hs:n+m≤4294967296) (hk:rdA ks b (m*3) cb w)
 (hv:∀ v∈ks,Cu7 v=true) (hz:z.size=3) (hbt:Nat.ble bytes 4096=true)
 (hK:∀ (a':Option Addr) (c':Nat) (w':World),Ho w0 w' (sl a' ((n+m)*3) (c'*3) (vs++ks) t::L)→K a' (n+m) c' w'):Bn8 t 3 bytes z a n c b m w K:=by
 have hA:slA a (n*3) (c*3) vs t w:=hS.hold _ (AD ..)
 have hm:m*3=ks.length:=hk.len
 have hn:n*3=vs.length:=hA.1
 have hbt':bytes≤4096:=AG hbt
 refine ⟨ks,hm.symm,hk.row,fun hle=>?_,fun hlt=>⟨by omega,?_,hbt',vs,hn.symm,hA.rd.row,fun c' d hc'=>?_⟩⟩
 · obtain ⟨_,⟨rfl,hc,he⟩ | ⟨r,zz,rfl,hr,hc⟩⟩:=hA
   · subst he
     have j:n=0:=by simp at hn;omega
     have l:m=0:=by omega
     subst j l
     have p:ks = []:=List.eq_nil_of_length_eq_zero (by omega)
     subst p
     exact hK _ _ _ (by simpa using hS)
   · have hz:ks.length≤zz.length:=by omega
     have hlt:r<w.heap.size:=by
      rcases Nat.lt_or_ge r w.heap.size with f | f
      · exact f
      · rw [Array.getElem?_eq_none f] at hr;cases hr
     have hnew:w0.heap.size≤r:=hS.new _ (AD ..) rfl r ⟨_,rfl,rfl⟩
     have hst:St w0 w [(r,(vs++zz).toArray,t)]:=⟨hS.below,fun e he=>by
      simp only [AI] at he;subst he;exact ⟨hnew,hr⟩,List.pairwise_singleton _ _⟩
     have ha:(⟨r,0,none⟩:Addr).add (n*3)=⟨r,n*3,none⟩:=by rw [Cg7]
     obtain ⟨q,h⟩:=Dv6 (A:=[]) (B:=[]) (vs:=ks) (o:=n*3) (i:=0) hst (by simp;omega) hv
     show Fx2 ks ((⟨r,0,none⟩:Addr).add (n*3)) 0 w∧K _ _ _ (Az9 ks ((⟨r,0,none⟩:Addr).add (n*3)) 0 w)
     rw [ha]
     refine ⟨q,hK _ _ _ ?_⟩
     rw [show n*3+0=n*3 from rfl,hn,Bh0 _ _ _ (by simpa using hz),← hn] at h
     have hown:=(h.own _ (List.mem_singleton.2 rfl)).2
     have hbel:=Bv8.setRow_other ks r (n*3) 0 w
     refine hS.put rfl ⟨hbel.1,hbel.2.1,hbel.2.2.1,by rw [hbel.2.2.2.1];exact AB _,fun k hk'=>hbel.2.2.2.2 k (by omega)⟩ (fun b hb hne=>hbel.2.2.2.2 b (fun e=>hne ⟨_,rfl,e.symm⟩)) ⟨by rw [AA];omega,.inr ⟨r,zz.drop ks.length,rfl,?_,by rw [AA,List.length_drop];omega⟩⟩ (fun b hb=>?_) fun b hb => .inl hb
     · rw [hown]
     · obtain ⟨x,hx,rfl⟩:=hb
       cases hx
       rw [hbel.2.2.2.1];exact hlt
 · have:(n+m)*bytes≤4294967296*4096:=Nat.mul_le_mul (by omega) hbt'
   omega
 · exact hK _ _ _ (Fu5 hS.drop hz hn hm hc')
theorem Bu3 {b:Option Addr} {m cb t bytes:Nat} {z:Array Value} {K:Option Addr→Nat→Nat→World→Prop} (hS:Ho w0 w (sl a (n*3) (c*3) (dyC X H) t::L)) (hs:X.length+Y.length≤4294967296) (ha:X.length=H.length) (hb:Y.length=G.length) (hk:rdA (dyC Y G) b (m*3) cb w)
 (hz:z.size=3) (hbt:Nat.ble bytes 4096=true)
 (hK:∀ (a':Option Addr) (c':Nat) (w':World),Ho w0 w' (sl a' ((n+m)*3) (c'*3) (dyC (X++Y) (H++G)) t::L)→K a' (n+m) c' w'):Bn8 t 3 bytes z a n c b m w K:=by
 have hA:slA a (n*3) (c*3) (dyC X H) t w:=hS.hold _ (AD ..)
 have d:=hA.1
 have e:=hk.len
 rw [Al7 ha] at d
 rw [Al7 hb] at e
 rw [Cx0 ha] at hK
 exact Gs8 hS (by omega) hk (Ep5 Y G) hz hbt hK
end
section
variable {L:List It} {X:List Dy} {H:List Hd} {a:Option Addr} {n c:Nat} {w:World}
theorem AllD.part (h:AllD L X H) (i j:Nat):AllD L ((X.drop i).take j) ((H.drop i).take j):=by
 induction h generalizing i j with
 | nil=>simp;exact .nil
 | cons k h ih=>
   cases i with
   | zero=>
     cases j with
     | zero=>exact .nil
     | succ j=>exact .cons k (by simpa using ih 0 j)
   | succ i=>exact ih i j
end
end Go.Eng
