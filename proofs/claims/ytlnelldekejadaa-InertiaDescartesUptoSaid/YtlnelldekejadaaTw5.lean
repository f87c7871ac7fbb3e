/-
  Lists of structs of three cells (a truth value, a list of words, a whole number): the structs in one block, their lists readable by themselves. No condition.
-/
import Derived.Test.YtlnelldekejadaaTw4
set_option linter.all false
namespace Go.Eng
open Go
open Go.RowKit (Below)
abbrev Dy:=Bool×List Int×Int
def dyC:List Dy→List Hd→List Value
  | x::X,h::H => .bool x.1::hdV h :: .int .i64 x.2.2::dyC X H
  | _,_=>[]
inductive AllD (L:List It):List Dy→List Hd→Prop
  | nil:AllD L [] []
  | cons {x:Dy} {h:Hd} {X:List Dy} {H:List Hd}:Ent L (rdA (x.2.1.map (Value.int .u64)) h.1 h.2.1 h.2.2)→AllD L X H→AllD L (x::X) (h::H)
section
variable {L L':List It} {X Y:List Dy} {H G:List Hd}
theorem AllD.mono (h:AllD L X H) (hL:∀ e,e∈L→e∈L'):AllD L' X H:=by
  induction h with
  | nil=>exact .nil
  | cons h _ ih=>exact .cons (h.mono hL) ih
theorem AllD.len (h:AllD L X H):X.length=H.length:=by
  induction h with
  | nil=>rfl
  | cons _ _ ih=>simp [ih]
theorem AllD.get (h:AllD L X H):∀ {i:Nat} {t:Dy},X[i]?=some t→∃ g,H[i]?=some g∧Ent L (rdA (t.2.1.map (Value.int .u64)) g.1 g.2.1 g.2.2):=by
  induction h with
  | nil=>intro i t h;simp at h
  | cons h _ ih=>
    intro i t hx
    cases i with
    | zero=>simp at hx;subst hx;exact ⟨_,rfl,h⟩
    | succ i=>exact ih (by simpa using hx)
theorem AllD.append (h:AllD L X H) (k:AllD L Y G):AllD L (X++Y) (H++G):=by
  induction h with
  | nil=>exact k
  | cons h _ ih=>exact .cons h ih
theorem AllD.one {x:Dy} {h:Hd} (k:Ent L (rdA (x.2.1.map (Value.int .u64)) h.1 h.2.1 h.2.2)):AllD L [x] [h] := .cons k .nil
theorem AllD.set (h:AllD L X H) {x:Dy} {g:Hd} (k:Ent L (rdA (x.2.1.map (Value.int .u64)) g.1 g.2.1 g.2.2)):∀ i:Nat,AllD L (X.set i x) (H.set i g):=by
  induction h with
  | nil=>intro i;exact .nil
  | cons h h2 ih=>
    intro i
    cases i with
    | zero=>exact .cons k h2
    | succ i=>exact .cons h (ih i)
theorem AllD.both {x y:It} (h:AllD (x::y::L) X H):AllD (Go.Eng.both x y::L) X H:=by
  induction h with
  | nil=>exact .nil
  | cons h _ ih=>exact .cons h.both ih
theorem dyC_len:∀ {X:List Dy} {H:List Hd},X.length=H.length→(dyC X H).length=X.length*3
  | [],[],_=>rfl
  | [],_::_,h=>by simp at h
  | _::_,[],h=>by simp at h
  | x::X,k::H,h=>by
    have:=dyC_len (X:=X) (H:=H) (by simpa using h)
    simp only [dyC,List.length_cons,this];omega
theorem dyC_app:∀ {X:List Dy} {H:List Hd},X.length=H.length→dyC (X++Y) (H++G)=dyC X H++dyC Y G
  | [],[],_=>rfl
  | [],_::_,h=>by simp at h
  | _::_,[],h=>by simp at h
  | x::X,k::H,h=>by
    have:=dyC_app (X:=X) (H:=H) (by simpa using h)
    simp only [List.cons_append,dyC,this]
theorem dyC_get:∀ {X:List Dy} {H:List Hd} {i:Nat} {x:Dy} {g:Hd},X[i]?=some x→H[i]?=some g→(dyC X H)[i*3]?=some (.bool x.1)∧(dyC X H)[i*3+1]?=some (hdV g)∧(dyC X H)[i*3+2]?=some (.int .i64 x.2.2)
  | [],_,_,_,_,h,_=>by simp at h
  | _::_,[],_,_,_,_,h=>by simp at h
  | x::X,k::H,0,_,_,h1,h2=>by
    simp at h1 h2;subst h1;subst h2
    exact ⟨rfl,rfl,rfl⟩
  | x::X,k::H,i+1,_,_,h1,h2=>by
    have:=dyC_get (X:=X) (H:=H) (i:=i) (by simpa using h1) (by simpa using h2)
    have e0:(i+1)*3=i*3+3:=by omega
    rw [e0]
    exact this
theorem dyC_set:∀ {X:List Dy} {H:List Hd} {i:Nat} {x:Dy} {g:Hd},X.length=H.length→(((dyC X H).set (i*3) (.bool x.1)).set (i*3+1) (hdV g)).set (i*3+2) (.int .i64 x.2.2)=dyC (X.set i x) (H.set i g)
  | [],[],_,_,_,_=>rfl
  | [],_::_,_,_,_,h=>by simp at h
  | _::_,[],_,_,_,h=>by simp at h
  | x::X,k::H,0,_,_,_=>rfl
  | x::X,k::H,i+1,y,g,h=>by
    have:=dyC_set (X:=X) (H:=H) (i:=i) (x:=y) (g:=g) (by simpa using h)
    have e0:(i+1)*3=i*3+3:=by omega
    rw [e0]
    simp only [List.set_cons_succ,dyC]
    rw [← this]
variable {a:Option Addr} {n c:Nat} {w w0:World} {i:Int} {x:Dy} {g:Hd}
theorem AllD.atE {t:Dy} (h:AllD L X H) (hx:atI X i=some t):∃ g,H[i.toNat]?=some g∧X[i.toNat]?=some t∧0≤i∧i.toNat<X.length∧Ent L (rdA (t.2.1.map (Value.int .u64)) g.1 g.2.1 g.2.2):=by
  obtain ⟨h1,h2,h3⟩:=Go.Eng.atE hx
  obtain ⟨g,h4,h5⟩:=h.get h1
  exact ⟨g,h4,h1,h2,h3,h5⟩
theorem lenD {v:Int} (h:some (((X.length:Nat)):Int)=some v) (ha:X.length=H.length) (hr:rdA (dyC X H) a (n*3) (c*3) w):((n:Nat):Int)=v:=by
  have e:=hr.len
  rw [dyC_len ha] at e
  have e2:n=X.length:=by omega
  rw [e2];exact Option.some.inj h
theorem idxD_s {K:Addr→Prop} (ha:X.length=H.length) (hr:rdA (dyC X H) a (n*3) (c*3) w) (h0:0≤i) (h1:i.toNat<X.length) (hk:∀ b:Addr,a=some b→K b):(0:Int)≤i∧i<(n:Nat)∧optM a K:=by
  have e:=hr.len
  rw [dyC_len ha] at e
  have hn:n=X.length:=by omega
  refine ⟨h0,by omega,?_⟩
  obtain ⟨y,hy,_⟩:=hr.at_ (i.toNat*3) (by omega)
  subst hy
  exact hk y rfl
theorem rdD_cell {vs:List Value} {b:Addr} {k:Nat} {v:Value} (hr:rdA vs a n c w) (hb:a=some b) (hv:vs[k]?=some v):w.cell? (b.add k)=some v:=by
  have hl:k<vs.length:=by
    rcases Nat.lt_or_ge k vs.length with h1 | h1
    · exact h1
    · rw [List.getElem?_eq_none h1] at hv;cases hv
  obtain ⟨y,hy,hc⟩:=hr.at_ k (by rw [hr.len];exact hl)
  rw [hb] at hy;cases hy
  rw [hc,hv]
theorem rdD0 {b:Addr} (hr:rdA (dyC X H) a n c w) (hb:a=some b) (hx:X[i.toNat]?=some x) (hg:H[i.toNat]?=some g):w.cell? (b.add (i.toNat*3))=some (.bool x.1):=rdD_cell hr hb (dyC_get hx hg).1
theorem rdD1 {b:Addr} (hr:rdA (dyC X H) a n c w) (hb:a=some b) (hx:X[i.toNat]?=some x) (hg:H[i.toNat]?=some g):w.cell? ((b.add (i.toNat*3)).add 1)=some (.slice g.1 g.2.1 g.2.2):=by
  rw [add_add2];exact rdD_cell hr hb (dyC_get hx hg).2.1
theorem rdD2 {b:Addr} (hr:rdA (dyC X H) a n c w) (hb:a=some b) (hx:X[i.toNat]?=some x) (hg:H[i.toNat]?=some g):w.cell? ((b.add (i.toNat*3)).add 2)=some (.int .i64 x.2.2):=by
  rw [add_add2];exact rdD_cell hr hb (dyC_get hx hg).2.2
theorem incl_one {x:It} (h:x∈L'):∀ e,e ∈ [x]→e∈L':=fun e he=>by
  rw [List.mem_singleton] at he;subst he;exact h
theorem Ent.nilD (L:List It):Ent L (rdA (dyC [] []) none (0*3) (0*3)):=fun _ _=>⟨rfl,Nat.le_refl _,fun i hi=>by omega⟩
theorem stoC_s {vs:List Value} {b:Addr} {k t:Nat} {v:Value} {K:World→Prop} (hS:Ho w0 w (sl a n c vs t::L)) (hb:a=some b) (h1:k<vs.length)
    (hk:∀ w':World,Ho w0 w' (sl a n c (vs.set k v) t::L)→K w'):stM (b.add k) v w K:=by
  have:=sto_s (ws:=vs) (enc:=fun v=>v) (i:=(k:Int)) (y:=v) (K:=K) (L:=L) (n:=n) (c:=c) (t:=t) (w:=w) (w0:=w0) (a:=a) (by simpa using hS) hb (by simpa using h1) (by simpa using hk)
  simpa using this
theorem stoD_s {b:Addr} {t:Nat} {K:World→Prop} (hS:Ho w0 w (sl a n c (dyC X H) t::L)) (ha:X.length=H.length) (hb:a=some b) (h1:i.toNat<X.length)
    (hk:∀ w':World,Ho w0 w' (sl a n c (dyC (X.set i.toNat x) (H.set i.toNat g)) t::L)→K w') :
    stM (b.add (i.toNat*3)) (.bool x.1) w fun w1=>stM ((b.add (i.toNat*3)).add 1) (.slice g.1 g.2.1 g.2.2) w1 fun w2=>stM ((b.add (i.toNat*3)).add 2) (.int .i64 x.2.2) w2 K:=by
  have hl:=dyC_len ha
  refine stoC_s hS hb (by rw [hl];omega) fun w1 h1'=>?_
  rw [add_add2]
  refine stoC_s h1' hb (by rw [List.length_set,hl];omega) fun w2 h2'=>?_
  rw [add_add2]
  refine stoC_s h2' hb (by rw [List.length_set,List.length_set,hl];omega) fun w3 h3'=>?_
  have e:=dyC_set (i:=i.toNat) (x:=x) (g:=g) ha
  unfold hdV at e
  rw [e] at h3'
  exact hk w3 h3'
theorem litD_s {m e:Nat} {K:Addr→World→Prop} (hS:Ho w0 w L) {cs:Array Value} (hc:cs.toList=dyC X H) (ha:X.length=H.length) (hm:X.length=m)
    (hk:∀ (r:Nat) (w':World),Ho w0 w' (sl (some ⟨r,0,none⟩) (m*3) (m*3) (dyC X H) e::L)→K ⟨r,0,none⟩ w'):newM cs e w K:=by
  have hl:=dyC_len ha
  have:=lit_s (ks:=dyC X H) (enc:=fun v=>v) (m:=m*3) (e:=e) (K:=K) hS (cs:=cs) (by simpa using hc) (by rw [hl,hm]) (by simpa using hk)
  exact this
theorem Ho.noneD {t:Nat} (hS:Ho w0 w L):Ho w0 w (Go.Eng.sl Option.none (0*3) (0*3) (dyC [] []) t::L):=
  hS.void ⟨rfl,.inl ⟨rfl,rfl,rfl⟩⟩ fun b hb=>by obtain ⟨x,hx,_⟩:=hb;cases hx
theorem zrow_len (n:Nat) (z:Array Value):(zrow n z).size=n:=by simp [zrow]
theorem dyC_cell:∀ (X:List Dy) (H:List Hd),∀ v∈dyC X H,cellV v=true
  | [],_,v,h=>by simp [dyC] at h
  | _::_,[],v,h=>by simp [dyC] at h
  | x::X,k::H,v,h=>by
    simp only [dyC,List.mem_cons] at h
    rcases h with rfl | rfl | rfl | h
    · rfl
    · rfl
    · rfl
    · exact dyC_cell X H v h
theorem app_newD {vs ks:List Value} {m c' d t:Nat} {z:Array Value} (hS:Ho w0 w L) (hz:z.size=3) (hn:n*3=vs.length) (hm:m*3=ks.length) (hc:n+m≤c') :
    Ho w0 ((w.drewN d).alloc (.cells ((vs++ks).toArray++zrow ((c'-(n+m))*z.size) z) t)) (sl (some (nxt w)) ((n+m)*3) (c'*3) (vs++ks) t::L):=by
  have hb:Below w.heap.size w ((w.drewN d).alloc (.cells ((vs++ks).toArray++zrow ((c'-(n+m))*z.size) z) t)):=
    Below.alloc (a:=w) (w:=w.drewN d) ⟨rfl,rfl,rfl,Nat.le_refl _,fun _ _=>rfl⟩ (Nat.le_refl _) _
  have hzl:(zrow ((c'-(n+m))*z.size) z).toList.length=(c'-(n+m))*3:=by rw [Array.length_toList,zrow_len,hz]
  refine hS.more hb ⟨by rw [List.length_append];omega,.inr ⟨_,(zrow ((c'-(n+m))*z.size) z).toList,rfl,?_,by rw [List.length_append,hzl];omega⟩⟩ (fun b hb=>?_) fun b hb=>?_
  · show ((w.drewN d).heap.push _)[w.heap.size]?=_
    have:(w.drewN d).heap.size=w.heap.size:=rfl
    rw [← this]
    simp
  · obtain ⟨x,hx,rfl⟩:=hb
    cases hx
    show w.heap.size<((w.drewN d).heap.push _).size
    simp
  · obtain ⟨x,hx,rfl⟩:=hb
    cases hx
    exact Nat.le_refl _
theorem appC_s {vs ks:List Value} {b:Option Addr} {m cb t bytes:Nat} {z:Array Value} {K:Option Addr→Nat→Nat→World→Prop} (hS:Ho w0 w (sl a (n*3) (c*3) vs t::L)) (hs:n+m≤4294967296) (hk:rdA ks b (m*3) cb w)
    (hv:∀ v∈ks,cellV v=true) (hz:z.size=3) (hbt:Nat.ble bytes 4096=true)
    (hK:∀ (a':Option Addr) (c':Nat) (w':World),Ho w0 w' (sl a' ((n+m)*3) (c'*3) (vs++ks) t::L)→K a' (n+m) c' w'):appM t 3 bytes z a n c b m w K:=by
  have hA:slA a (n*3) (c*3) vs t w:=hS.hold _ (List.mem_cons_self ..)
  have hm:m*3=ks.length:=hk.len
  have hn:n*3=vs.length:=hA.1
  have hbt':bytes≤4096:=Nat.le_of_ble_eq_true hbt
  refine ⟨ks,hm.symm,hk.row,fun hle=>?_,fun hlt=>⟨by omega,?_,hbt',vs,hn.symm,hA.rd.row,fun c' d hc'=>?_⟩⟩
  · obtain ⟨_,⟨rfl,hc,he⟩ | ⟨r,zz,rfl,hr,hc⟩⟩:=hA
    · subst he
      have e1:n=0:=by simp at hn;omega
      have e2:m=0:=by omega
      subst e1 e2
      have h2:ks = []:=List.eq_nil_of_length_eq_zero (by omega)
      subst h2
      exact hK _ _ _ (by simpa using hS)
    · have hz:ks.length≤zz.length:=by omega
      have hlt:r<w.heap.size:=by
        rcases Nat.lt_or_ge r w.heap.size with h1 | h1
        · exact h1
        · rw [Array.getElem?_eq_none h1] at hr;cases hr
      have hnew:w0.heap.size≤r:=hS.new _ (List.mem_cons_self ..) rfl r ⟨_,rfl,rfl⟩
      have hst:St w0 w [(r,(vs++zz).toArray,t)]:=⟨hS.below,fun e he=>by
        simp only [List.mem_singleton] at he;subst he;exact ⟨hnew,hr⟩,List.pairwise_singleton _ _⟩
      have ha:(⟨r,0,none⟩:Addr).add (n*3)=⟨r,n*3,none⟩:=by rw [add_at]
      obtain ⟨k1,k2⟩:=setOwn (A:=[]) (B:=[]) (vs:=ks) (o:=n*3) (i:=0) hst (by simp;omega) hv
      show stOk ks ((⟨r,0,none⟩:Addr).add (n*3)) 0 w∧K _ _ _ (setRow ks ((⟨r,0,none⟩:Addr).add (n*3)) 0 w)
      rw [ha]
      refine ⟨k1,hK _ _ _ ?_⟩
      rw [show n*3+0=n*3 from rfl,hn,putRow_app _ _ _ (by simpa using hz),← hn] at k2
      have hown:=(k2.own _ (List.mem_singleton.2 rfl)).2
      have hbel:=app_s.setRow_other ks r (n*3) 0 w
      refine hS.put rfl ⟨hbel.1,hbel.2.1,hbel.2.2.1,by rw [hbel.2.2.2.1];exact Nat.le_refl _,fun k hk'=>hbel.2.2.2.2 k (by omega)⟩ (fun b hb hne=>hbel.2.2.2.2 b (fun e=>hne ⟨_,rfl,e.symm⟩)) ⟨by rw [List.length_append];omega,.inr ⟨r,zz.drop ks.length,rfl,?_,by rw [List.length_append,List.length_drop];omega⟩⟩ (fun b hb=>?_) fun b hb => .inl hb
      · rw [hown]
      · obtain ⟨x,hx,rfl⟩:=hb
        cases hx
        rw [hbel.2.2.2.1];exact hlt
  · have:(n+m)*bytes≤4294967296*4096:=Nat.mul_le_mul (by omega) hbt'
    omega
  · exact hK _ _ _ (app_newD hS.drop hz hn hm hc')
theorem appD_s {b:Option Addr} {m cb t bytes:Nat} {z:Array Value} {K:Option Addr→Nat→Nat→World→Prop} (hS:Ho w0 w (sl a (n*3) (c*3) (dyC X H) t::L)) (hs:X.length+Y.length≤4294967296) (ha:X.length=H.length) (hb:Y.length=G.length) (hk:rdA (dyC Y G) b (m*3) cb w)
    (hz:z.size=3) (hbt:Nat.ble bytes 4096=true)
    (hK:∀ (a':Option Addr) (c':Nat) (w':World),Ho w0 w' (sl a' ((n+m)*3) (c'*3) (dyC (X++Y) (H++G)) t::L)→K a' (n+m) c' w'):appM t 3 bytes z a n c b m w K:=by
  have hA:slA a (n*3) (c*3) (dyC X H) t w:=hS.hold _ (List.mem_cons_self ..)
  have h1:=hA.1
  have h2:=hk.len
  rw [dyC_len ha] at h1
  rw [dyC_len hb] at h2
  rw [dyC_app ha] at hK
  exact appC_s hS (by omega) hk (dyC_cell Y G) hz hbt hK
end
section
variable {L:List It} {X:List Dy} {H:List Hd} {a:Option Addr} {n c:Nat} {w:World}
theorem AllD.part (h:AllD L X H) (i j:Nat):AllD L ((X.drop i).take j) ((H.drop i).take j):=by
  induction h generalizing i j with
  | nil=>simp;exact .nil
  | cons k h ih=>
    cases i with
    | zero=>
      cases j with
      | zero=>exact .nil
      | succ j=>exact .cons k (by simpa using ih 0 j)
    | succ i=>exact ih i j
theorem dyC_drop:∀ {X:List Dy} {H:List Hd} (i:Nat),X.length=H.length→(dyC X H).drop (i*3)=dyC (X.drop i) (H.drop i)
  | _,_,0,_=>rfl
  | [],[],i+1,_=>by simp [dyC]
  | x::X,h::H,i+1,e=>by
    rw [show (i+1)*3=i*3+3 by omega]
    exact dyC_drop i (by simpa using e)
  | [],_::_,_+1,e=>by simp at e
  | _::_,[],_+1,e=>by simp at e
theorem dyC_take:∀ {X:List Dy} {H:List Hd} (i:Nat),X.length=H.length→(dyC X H).take (i*3)=dyC (X.take i) (H.take i)
  | _,_,0,_=>by simp [dyC]
  | [],[],i+1,_=>by simp [dyC]
  | x::X,h::H,i+1,e=>by
    rw [show (i+1)*3=i*3+3 by omega]
    show _::_::_::(dyC X H).take (i*3)=_::_::_::dyC (X.take i) (H.take i)
    rw [dyC_take i (by simpa using e)]
  | [],_::_,_+1,e=>by simp at e
  | _::_,[],_+1,e=>by simp at e
theorem rdA.partD {lo m:Nat} (hr:rdA (dyC X H) a (n*3) (c*3) w) (hl:X.length=H.length) (h:lo+m≤n):rdA (dyC ((X.drop lo).take m) ((H.drop lo).take m)) (slBase a lo c 3) (m*3) ((c-lo)*3) w:=by
  have hn:=hr.len
  rw [dyC_len hl] at hn
  have hc:=hr.cap
  have e:dyC ((X.drop lo).take m) ((H.drop lo).take m)=((dyC X H).drop (lo*3)).take (m*3):=by
    rw [dyC_drop lo hl,dyC_take m (by simp;omega)]
  rw [e]
  refine ⟨by rw [List.length_take,List.length_drop,dyC_len hl];omega,by omega,fun i hi=>?_⟩
  obtain ⟨x,hx,hv⟩:=hr.at_ (lo*3+i) (by omega)
  unfold slBase
  rw [hx,if_neg (show ¬ c=lo by omega)]
  refine ⟨_,rfl,?_⟩
  rw [add_add2,hv,List.getElem?_take,if_pos hi,List.getElem?_drop]
theorem Ent.fromD {lo:Int} (h:Ent L (rdA (dyC X H) a (n*3) (c*3))) (hl:X.length=H.length) (h0:0≤lo) (h1:lo≤(n:Nat)) :
    Ent L (rdA (dyC ((X.drop lo.toNat).take ((n:Int).toNat-lo.toNat)) ((H.drop lo.toNat).take ((n:Int).toNat-lo.toNat))) (slBase a lo.toNat c 3) ((n-lo.toNat)*3) ((c-lo.toNat)*3)):=
  h.imp fun w hr=>by
    rw [Int.toNat_natCast]
    exact hr.partD hl (by omega)
theorem Ent.partD {lo hi:Int} (h:Ent L (rdA (dyC X H) a (n*3) (c*3))) (hl:X.length=H.length) (_:0≤lo) (h1:lo≤hi) (h2:hi.toNat≤X.length) :
    Ent L (rdA (dyC ((X.drop lo.toNat).take (hi.toNat-lo.toNat)) ((H.drop lo.toNat).take (hi.toNat-lo.toNat))) (slBase a lo.toNat c 3) ((hi.toNat-lo.toNat)*3) ((c-lo.toNat)*3)):=
  h.imp fun w hr=>hr.partD hl (by have:=hr.len;rw [dyC_len hl] at this;omega)
theorem rdA.hiCapD {hi:Int} (hr:rdA (dyC X H) a (n*3) (c*3) w) (hl:X.length=H.length) (h2:hi.toNat≤X.length):hi≤(c:Nat):=by
  have:=hr.len
  rw [dyC_len hl] at this
  have:=hr.cap
  omega
end
end Go.Eng
