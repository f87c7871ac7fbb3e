/-
  Each operation of the definitional reading is sound (continued): slices, fields, elements, append and copy. No condition but that the table of types is the program's.
-/
import Derived.Test.YtlnelldekejadaaGreatSnd3
set_option linter.all false
open Bool renaming false_eq_true→AA
open Option renaming map_eq_some_iff→AB
open List renaming getElem?_toArray→AC,getElem?_map→AE
open Nat renaming eq_zero_or_pos→AD
namespace Go.Eng
open Go
section
variable {P:Program} {T:Nat→Option TI}
theorem Df1 (l:List Value) (n:Nat):(rep l n).length=n*l.length:=by
 induction n with
 | zero=>simp [rep]
 | succ n ih=>simp [rep,ih,Nat.succ_mul,Nat.add_comm]
theorem Gg2 (l:List Value) (n i:Nat) (h:i<n*l.length):(rep l n)[i]?=l[i%l.length]?:=by
 induction n generalizing i with
 | zero=>simp at h
 | succ n ih=>
   rw [Nat.succ_mul] at h
   by_cases hi:i<l.length
   · simp [rep,List.getElem?_append_left hi,Nat.mod_eq_of_lt hi]
   · have hp:0<l.length:=by
      rcases AD l.length with a | a
      · rw [a] at h;simp at h
      · exact a
     have hi':l.length≤i:=by omega
     rw [rep,List.getElem?_append_right hi',ih (i-l.length) (by omega)]
     congr 1
     rw [Nat.mod_eq_sub_mod hi']
theorem Gk7 (z:Array Value) (n:Nat):((Array.range (n*z.size)).map (z[· % z.size]!))=(rep z.toList n).toArray:=by
 apply Array.ext_getElem?
 intro i
 by_cases h:i<n*z.size
 · have hl:i<n*z.toList.length:=by simpa using h
   have hz:0<z.size:=by
    rcases AD z.size with a | a
    · rw [a] at h;simp at h
    · exact a
   have hm:i%z.size<z.size:=Nat.mod_lt _ hz
   have b:(rep z.toList n).toArray[i]?=z.toList[i%z.toList.length]?:=by rw [AC,Gg2 _ _ _ hl]
   rw [b]
   simp [h,hm]
 · have c:(rep z.toList n).length≤i:=by rw [Df1];simpa using h
   have b:(rep z.toList n).toArray[i]?=none:=by rw [AC,List.getElem?_eq_none c]
   rw [b]
   simp;omega
theorem Dd2 {t:Nat} {ti:TI} (ht:TIOk P t ti) (hT:TOk P T) {n:Nat} {ps:Array (Nat×Operand)} {e:Env} {ρ:Operand→Value} (he:Gg4 e ρ) {w:World} {K:Value→World→Prop}
 (h:match ti.d with
 | .slice el=>Ac6 (T el) fun te=>Ac6 (Fd7 e ps.toList) fun vs=>
   cond (Nat.ble (n*te.size) 4096) (cond (Nat.beq (Ai5 te.zero).length te.size)
    (Ac6 (Da0 (fun i=>some (i*te.size,te.size)) (rep (Ai5 te.zero) n) vs) fun cs=>Ac8 cs.toArray el w fun p w'=>K (.slice (some p) n n) w') False) False
 | _=>False):Dh9 P K (Instr.buildSlice t n (ps.map fun (i,x)=>(i,ρ x))) w:=by
 obtain ⟨d,hd,hk⟩:=ht.desc
 split at h
 · rename_i el hel
   rw [hel] at hk
   cases d<;>(try exact hk.elim)
   cases hk
   obtain ⟨te,hte,h⟩:=Aa3 h
   obtain ⟨vs,hvs,h⟩:=Aa3 h
   obtain ⟨hb,h⟩:=cond_true h
   obtain ⟨b,h⟩:=cond_true h
   obtain ⟨cs,hcs,h⟩:=Aa3 h
   refine ⟨_,_,?_,h⟩
   have hparts:(ps.map fun (i,x)=>(i,ρ x)).toList=vs:=by
    have:=Do6 he hvs
    simpa using this
   have hle:=Nat.le_of_ble_eq_true hb
   have hsz:=Nat.eq_of_beq_eq_true b
   have hsz':te.zero.cells.size=te.size:=by rw [Az2] at hsz;simpa using hsz
   have hfill:=Dm4 hcs
   have c : ¬ n*te.size>2^24:=by omega
   simp only [Instr.buildSlice,Sem.run_bind,Ad3 hd,Result.andThen_ok,Aj2 (hT _ _ hte),if_neg c]
   by_cases a:n*te.size=0
   · have f:rep (Ai5 te.zero) n = []:=by
      apply List.eq_nil_of_length_eq_zero
      rw [Df1,hsz];exact a
     rw [f] at hfill
     simp only [a,if_true,Sem.run_bind,Sem.run_pure,Result.andThen_ok]
     have:(Array.map (fun x=>(#[]:Array Value)[x%(#[]:Array Value).size]!) (Array.range 0))=([]:List Value).toArray:=by simp
     rw [this,hparts,hfill]
     rfl
   · simp only [a,if_false,Sem.run_bind,Bq8 (hT _ _ hte),Result.andThen_ok,Sem.run_pure]
     have:=Gk7 te.zero.cells n
     rw [hsz'] at this
     rw [hsz',this,← Az2,hparts,hfill]
     rfl
 · exact h.elim
theorem Di9 {t el:Nat} {te:TI} {d:TypeDesc} (hd:P.underlying t=some d) (hk:d = .slice el) (hte:TIOk P el te) {l c:Int} (e:0≤l) (f:l≤c) (g:c≤1099511627776) (h:c*te.bytes≤281474976710656) (w:World) :
 (Instr.makeSlice t (.int .i64 l) (.int .i64 c)).run P w = .ok (.slice (some (nxt w)) l.toNat c.toNat) (w.alloc (.cells (Cz6 (c.toNat*te.size) (Ai5 te.zero).toArray) el)):=by
 subst hk
 have wl:IntKind.i64.wrap l=l:=by simp only [IntKind.wrap,IntKind.bits,IntKind.signed];simp;omega
 have wc:IntKind.i64.wrap c=c:=by simp only [IntKind.wrap,IntKind.bits,IntKind.signed];simp;omega
 obtain ⟨i,hi,hs,hb,hz⟩:=hte.info
 have hti:(typeInfo el).run P w = .ok i w:=by simp [typeInfo,hi]
 have hbig:(decide (c<0)||decide ((↑i.bytes:Int)*c>2^48))=false:=by
  rw [hb]
  have:(te.bytes:Int)*c=c*te.bytes:=Int.mul_comm _ _
  simp
  omega
 simp only [Instr.makeSlice,Sem.run_bind,Ad3 hd,Result.andThen_ok,asInt,asIntOf,Sem.run_pure,hti,wl,wc]
 have a : ¬ ((decide (c<0)||decide ((↑i.bytes:Int)*c>2^48)||decide (l<0)||decide (l>c))=true):=by
  rw [hbig];simp;omega
 rw [if_neg a]
 simp only [run_askRoom,Sem.run_bind,Result.andThen_ok,Aj2 hte,Bh7]
 by_cases hn:c.toNat*te.size=0
 · have b:∀ z:Array Value,Cz6 0 z = #[]:=fun z=>by simp [Cz6]
   simp only [hn,if_true,Sem.run_pure,Result.andThen_ok,newRow,run_newObj,Sem.run_bind,b]
   have:(Array.map (fun x=>(#[]:Array Value)[x%(#[]:Array Value).size]!) (Array.range 0)) = #[]:=by simp
   rw [this]
   rfl
 · simp only [hn,if_false,Bq8 hte,Sem.run_pure,Result.andThen_ok,newRow,run_newObj,Sem.run_bind]
   rfl
theorem Ef7 {t:Nat} {ti:TI} (ht:TIOk P t ti) (hT:TOk P T) {v:Value} {lo hi mx:Option Value} {w:World} {K:Value→World→Prop}
 (h:match ti.d,v with
 | .slice el,.slice a len cap=>Ac6 (Bg5 T el) fun s=>Cb8 s a len cap lo hi mx fun v=>K v w
 | .array n el,.pointer p=>Ab6 p fun a=>Ac6 (Bg5 T el) fun s=>Cb8 s (some a) n n lo hi mx fun v=>K v w
 | _,_=>False):Dh9 P K (Instr.sliceAt t v lo hi mx) w:=by
 obtain ⟨d,hd,hk⟩:=ht.desc
 split at h
 · rename_i el a len cap hel
   rw [hel] at hk
   cases d<;>(try exact hk.elim)
   cases hk
   obtain ⟨s,hs,h⟩:=Aa3 h
   obtain ⟨l,hh,m,hr,h⟩:=Ea6 (P:=P) h true
   refine ⟨_,w,?_,h⟩
   simp only [Bg5] at hs
   cases hte:T el with
   | none=>simp [hte] at hs
   | some te=>
     simp [hte] at hs
     subst hs
     simp only [Instr.sliceAt,Instr.slice,Sem.run_bind,Ad3 hd,Result.andThen_ok,hr,Aj2 (hT _ _ hte),Sem.run_pure]
     rfl
 · rename_i n el p hel
   rw [hel] at hk
   cases d<;>(try exact hk.elim)
   obtain ⟨b,c⟩:=hk
   subst b;subst c
   obtain ⟨a,rfl,h⟩:=Am6 h
   obtain ⟨s,hs,h⟩:=Aa3 h
   obtain ⟨l,hh,m,hr,h⟩:=Ea6 (P:=P) h false
   refine ⟨_,w,?_,h⟩
   simp only [Bg5] at hs
   cases hte:T el with
   | none=>simp [hte] at hs
   | some te=>
     simp [hte] at hs
     subst hs
     simp only [Instr.sliceAt,Instr.sureAddr,Sem.run_bind,Ad3 hd,Result.andThen_ok,hr,Aj2 (hT _ _ hte),Sem.run_pure,Ak1]
     congr 2
     split<;>rfl
 · exact h.elim
theorem Ed4 {t:Nat} {ti:TI} (ht:TIOk P t ti) (hT:TOk P T) {v:Value} {i:Nat} {w:World} {K:Value→World→Prop}
 (h:match ti.d with
 | .struct fs=>Ac6 (nth fs i) fun f=>Ac6 (Bg5 T f.1) fun s=>cond (Nat.beq s 0) False (match v with
   | .pointer p=>Ab6 p fun a=>K (.pointer (some (a.add f.2))) w
   | _=>False)
 | _=>False):Dh9 P K (Instr.fieldAt t v i) w:=by
 obtain ⟨d,hd,hk⟩:=ht.desc
 split at h
 · rename_i fs hfs
   rw [hfs] at hk
   cases d<;>(try exact hk.elim)
   rename_i fields
   have hk':fs=fields.toList.map fun f=>(f.type,f.offset):=hk
   subst hk'
   obtain ⟨f,hf,h⟩:=Aa3 h
   obtain ⟨s,hs,h⟩:=Aa3 h
   rcases As2 h with ⟨_,h⟩ | ⟨b,h⟩
   · exact h.elim
   cases v<;>(try exact h.elim)
   obtain ⟨a,rfl,h⟩:=Am6 h
   rw [Ax2] at hf
   simp only [AE,AB] at hf
   obtain ⟨fd,hfd,rfl⟩:=hf
   have hfd':fields[i]?=some fd:=by simpa using hfd
   refine ⟨_,w,?_,h⟩
   simp only [Bg5] at hs
   cases hte:T fd.type with
   | none=>simp [hte] at hs
   | some te=>
     simp [hte] at hs
     subst hs
     have hne : ¬ te.size=0:=by intro e;rw [e] at b;cases b
     simp only [Instr.fieldAt,Sem.run_bind,Ad3 hd,Result.andThen_ok,hfd',Instr.sureAddr,Sem.run_pure,fieldPlace,Aj2 (hT _ _ hte),if_neg hne]
 · exact h.elim
theorem Ez1 {t:Nat} {ti:TI} (ht:TIOk P t ti) (hT:TOk P T) {v:Value} {i:Nat} {w:World} {K:Value→World→Prop}
 (h:match ti.d with
 | .struct fs=>Ac6 (nth fs i) fun f=>Ac6 (T f.1) fun tf=>match v with
   | .agg cs=>cond tf.d.isAgg (K (.agg ((cs.toList.drop f.2).take tf.size).toArray) w) (Ac6 (nth cs.toList f.2) fun v=>K v w)
   | _=>False
 | _=>False):Dh9 P K (Instr.field t v i) w:=by
 obtain ⟨d,hd,hk⟩:=ht.desc
 split at h
 · rename_i fs hfs
   rw [hfs] at hk
   cases d<;>(try exact hk.elim)
   rename_i fields
   have hk':fs=fields.toList.map fun f=>(f.type,f.offset):=hk
   subst hk'
   obtain ⟨f,hf,h⟩:=Aa3 h
   obtain ⟨tf,htf,h⟩:=Aa3 h
   obtain ⟨cs,rfl⟩:∃ cs,v = .agg cs:=by cases v<;>first | exact ⟨_,rfl⟩ | exact h.elim
   rw [Ax2] at hf
   simp only [AE,AB] at hf
   obtain ⟨fd,hfd,rfl⟩:=hf
   have hfd':fields[i]?=some fd:=by simpa using hfd
   have hte:=hT _ _ htf
   rcases As2 h with ⟨hb,h⟩ | ⟨hb,h⟩
   · refine ⟨_,w,?_,h⟩
     simp only [Instr.field,Sem.run_bind,Ad3 hd,Result.andThen_ok,hfd',asAgg,Sem.run_pure,part,Cp7 hte,hb,if_true,Aj2 hte]
     congr 2
     apply Array.ext'
     simp [Array.toList_extract,List.extract_eq_take_drop]
   · obtain ⟨u,hu,h⟩:=Aa3 h
     refine ⟨_,w,?_,h⟩
     rw [Ax2] at hu
     have hu':cs[fd.offset]?=some u:=by simpa using hu
     simp only [Instr.field,Sem.run_bind,Ad3 hd,Result.andThen_ok,hfd',asAgg,Sem.run_pure,part,Cp7 hte,hb,AA,if_false,hu']
 · exact h.elim
theorem Ed6 {t:Nat} {ti:TI} (ht:TIOk P t ti) (hT:TOk P T) {v vi:Value} {w:World} {K:Value→World→Prop}
 (h:match ti.d,v,vi with
 | .slice el,.slice a len _,.int _ i=>Ac6 (Bg5 T el) fun s=>0≤i∧i<len∧Ab6 a fun a=>K (.pointer (some (a.add (i.toNat*s)))) w
 | .array n el,.pointer p,.int _ i=>Ac6 (Bg5 T el) fun s=>0≤i∧i<n∧Ab6 p fun a=>K (.pointer (some (a.add (i.toNat*s)))) w
 | _,_,_=>False):Dh9 P K (Instr.indexAt t v vi) w:=by
 obtain ⟨d,hd,hk⟩:=ht.desc
 split at h
 · rename_i el a len cap k i hel
   rw [hel] at hk
   cases d<;>(try exact hk.elim)
   cases hk
   obtain ⟨s,hs,b,c,h⟩:=Aa3 h
   obtain ⟨x,rfl,h⟩:=Am6 h
   refine ⟨_,w,?_,h⟩
   simp only [Bg5] at hs
   cases hte:T el with
   | none=>simp [hte] at hs
   | some te=>
     simp [hte] at hs
     subst hs
     simp only [Instr.indexAt,asIntOf,Sem.run_bind,Sem.run_pure,Ad3 hd,Result.andThen_ok]
     rw [if_pos ⟨b,c⟩]
     simp only [Sem.run_bind,Aj2 (hT _ _ hte),Result.andThen_ok,Sem.run_pure]
 · rename_i n el p k i hel
   rw [hel] at hk
   cases d<;>(try exact hk.elim)
   obtain ⟨e,f⟩:=hk
   subst e;subst f
   obtain ⟨s,hs,b,c,h⟩:=Aa3 h
   obtain ⟨x,rfl,h⟩:=Am6 h
   refine ⟨_,w,?_,h⟩
   simp only [Bg5] at hs
   cases hte:T el with
   | none=>simp [hte] at hs
   | some te=>
     simp [hte] at hs
     subst hs
     simp only [Instr.indexAt,asIntOf,Sem.run_bind,Sem.run_pure,Ad3 hd,Result.andThen_ok,Instr.sureAddr]
     rw [if_pos ⟨b,c⟩]
     simp only [Sem.run_bind,Aj2 (hT _ _ hte),Result.andThen_ok,Sem.run_pure]
 · exact h.elim
theorem Fe0 {t:Nat} {ti:TI} (ht:TIOk P t ti) (hT:TOk P T) {v vi:Value} {w:World} {K:Value→World→Prop}
 (h:match ti.d,v,vi with
 | .array n el,.agg cs,.int _ i=>Ac6 (T el) fun te=>cond te.d.isAgg False (0≤i∧i<n∧∃ v,cs[i.toNat*te.size]?=some v∧K v w)
 | .string,.string s,.int _ i=>0≤i∧∃ b:UInt8,s[i.toNat]?=some b∧K (.int .u8 b.toNat) w
 | _,_,_=>False):Dh9 P K (Instr.index t v vi) w:=by
 obtain ⟨d,hd,hk⟩:=ht.desc
 split at h
 · rename_i n el cs k i hel
   rw [hel] at hk
   cases d<;>(try exact hk.elim)
   obtain ⟨c,e⟩:=hk
   subst c;subst e
   obtain ⟨te,hte,h⟩:=Aa3 h
   rcases As2 h with ⟨_,h⟩ | ⟨hb,a,f,u,hu,h⟩
   · exact h.elim
   refine ⟨_,w,?_,h⟩
   simp only [Instr.index,asIntOf,Sem.run_bind,Sem.run_pure,Ad3 hd,Result.andThen_ok]
   rw [if_pos ⟨a,f⟩]
   simp only [Sem.run_bind,Aj2 (hT _ _ hte),Result.andThen_ok,part,Cp7 (hT _ _ hte),hb,AA,if_false,hu,Sem.run_pure]
 · rename_i s k i hel
   rw [hel] at hk
   cases d<;>(try exact hk.elim)
   obtain ⟨a,b,hb,h⟩:=h
   refine ⟨_,w,?_,h⟩
   simp only [Instr.index,asIntOf,Sem.run_bind,Sem.run_pure,Ad3 hd,Result.andThen_ok]
   rw [if_pos a,hb]
   rfl
 · exact h.elim
end
end Go.Eng
/-
  Each operation of the definitional reading is sound (continued): append, copy, min, max, calls; all operations in one theorem. No condition but that the table of types is the program's.
-/
namespace Go.Eng
open Go
section
variable {P:Program} {T:Nat→Option TI}
theorem Bf9 {size n:Nat} {b:Option Addr} {l c:Nat} {w:World} {new:List Value} (hl:new.length=n*size) (h:Dp4 w b new) :
 (Builtin.firstCells size n (.slice b l c)).run P w = .ok new.toArray w:=by
 cases b with
 | none=>
   have:new = []:=h
   subst this
   rfl
 | some a=>
   have:=Gg8 (P:=P) (show Gf6 w a new from h)
   simp only [Builtin.firstCells,← hl]
   exact this
theorem Dt8 (L:Nat):∀ (k c:Nat),c≤L+(L+768)/4→Builtin.growBy L k c≤L+(L+768)/4
 | 0,c,h=>by simpa [Builtin.growBy] using h
 | k+1,c,h=>by
   simp only [Builtin.growBy]
   split
   · exact h
   · exact Dt8 L k _ (by omega)
theorem Es7 {need old:Nat} (h:old<need):Builtin.nextslicecap need old≤2*need+192:=by
 unfold Builtin.nextslicecap
 split
 · omega
 · split
   · omega
   · have:=Dt8 need 4 old (by omega)
     omega
theorem Es8 {t t' el:Nat} {te:TI} {d d':TypeDesc} (hd:P.underlying t=some d) (hk:d = .slice el) (hd':P.underlying t'=some d') (hk':∃ x,d' = .slice x) (hte:TIOk P el te)
 {ts:Array TypeId} (ht:ts[0]?=some t) (ht':ts[1]?=some t') {a b:Option Addr} {len cap n c' ty:Nat} {w:World} {K:Value→World→Prop}
 (h:Bn8 el te.size te.bytes (Ai5 te.zero).toArray a len cap b n w fun a l c w'=>K (.slice a l c) w'):Dh9 P K (Builtin.append_ ts ty #[.slice a len cap,.slice b n c']) w:=by
 subst hk
 obtain ⟨x',rfl⟩:=hk'
 obtain ⟨i,hi,hs,hb,hz⟩:=hte.info
 have hti:∀ w,(typeInfo el).run P w = .ok i w:=fun w=>by simp [typeInfo,hi]
 obtain ⟨new,hnl,hnew,hin,hout⟩:=h
 have hfirst:=fun w' (hw':∀ q,w'.cell? q=w.cell? q)=>Bf9 (P:=P) (w:=w') (size:=te.size) (n:=n) (b:=b) (l:=n) (c:=c') hnl (by
  cases b with
  | none=>exact hnew
  | some x=>exact fun j hj=>by rw [hw'];exact hnew j hj)
 by_cases hroom:len+n≤cap
 · have hin:=hin hroom
   cases a with
   | none=>
     refine ⟨_,w,?_,hin⟩
     have hf:=hfirst w (fun _=>rfl)
     simp [Builtin.append_,ht,ht',Ad3 hd,Ad3 hd',Aj2 hte,Builtin.lenOf,hroom,hf]
   | some x=>
     obtain ⟨hok,hin⟩:=hin
     refine ⟨_,_,?_,hin⟩
     have hf:=hfirst w (fun _=>rfl)
     have hst:=Cf3 (P:=P) hok
     simp [Builtin.append_,ht,ht',Ad3 hd,Ad3 hd',Aj2 hte,Builtin.lenOf,hroom,hf,hst]
 · have hlt:cap<len+n:=by omega
   obtain ⟨f,g,k,old,hol,hold,hout⟩:=hout hlt
   have hcap : ¬ ((Builtin.nextslicecap (len+n) cap)*i.bytes>2^48):=by
    have:=Es7 hlt
    rw [hb]
    have m:Builtin.nextslicecap (len+n) cap*te.bytes≤(2*(len+n)+192)*te.bytes:=Nat.mul_le_mul_right _ this
    have o:(2*(len+n)+192)*te.bytes=2*((len+n)*te.bytes)+192*te.bytes:=by rw [Nat.add_mul,Nat.mul_assoc]
    omega
   have hmax : ¬ ((9223372036854775807:Int)<(len:Int)+(n:Int)∧i.bytes=0):=by
    intro hc
    have:=hc.1
    omega
   have hoc:(Question.appendCap (len+n) cap el).cut (w.tape w.drawn (.appendCap (len+n) cap el))≥len+n:=by simp [Question.cut]
   refine ⟨_,_,?_,hout _ 1 hoc⟩
   have hf:=hfirst w.drew (fun _=>rfl)
   have hfo:=Bf9 (P:=P) (w:=w.drew) (size:=te.size) (n:=len) (b:=a) (l:=len) (c:=cap) hol (by
    cases a with
    | none=>exact hold
    | some x=>exact fun j hj=>hold j hj)
   have hcap' : ¬ (2^48<Builtin.nextslicecap (len+n) cap*i.bytes):=hcap
   simp [Builtin.append_,ht,ht',Ad3 hd,Ad3 hd',Aj2 hte,Builtin.lenOf,hroom,hti,hmax,hcap',Question.forced,hf,hfo,Bq8 hte,newRow,Builtin.zeroCells,Cz6,Az2,nxt]
   have e:∀ r,old.toArray++(new.toArray++r)=(old++new).toArray++r:=fun r=>by rw [← Array.append_assoc];simp
   rw [e];rfl
theorem Fs7 {t el:Nat} {te:TI} {d:TypeDesc} (hd:P.underlying t=some d) (hk:d = .slice el) (hte:TIOk P el te)
 {ts:Array TypeId} (ht:ts[0]?=some t) {a b:Option Addr} {len cap n c' ty:Nat} {w:World} {K:Value→World→Prop}
 (h:Gt9 te.size a len b n w fun w'=>K (.int .i64 (min n len:Nat)) w'):Dh9 P K (Builtin.copy_ ts ty #[.slice a len cap,.slice b n c']) w:=by
 subst hk
 obtain ⟨new,hl,hnew,h⟩:=h
 have hf:(Builtin.firstCells te.size (Nat.min n len) (.slice b n c')).run P w = .ok new.toArray w:=Bf9 hl hnew
 cases a with
 | none=>
   refine ⟨_,w,?_,h⟩
   simp [Builtin.copy_,ht,Ad3 hd,Aj2 hte,Builtin.lenOf,hf,goInt]
 | some x=>
   obtain ⟨hok,h⟩:=h
   refine ⟨_,_,?_,h⟩
   have hst:=Cf3 (P:=P) hok
   simp [Builtin.copy_,ht,Ad3 hd,Aj2 hte,Builtin.lenOf,hf,hst,goInt]
theorem Go9 {isMax:Bool} {x y:Value} {w:World} {K:Value→World→Prop} (h:mm2 isMax x y w K):Dh9 P K (cond isMax (Builtin.max2 x y) (Builtin.min2 x y)) w:=by
 unfold mm2 at h
 split at h
 · obtain ⟨hk,h⟩:=cond_true h
   cases isMax
   · exact ⟨_,w,by simp only [cond,Builtin.min2,Sem.run_pure],h⟩
   · exact ⟨_,w,by simp only [cond,Builtin.max2,Sem.run_pure],h⟩
 · rename_i a b
   unfold Fq0 at h
   split at h
   · rename_i ho
     cases isMax
     · refine ⟨_,w.drewN 1,?_,h (Question.cut (.nanMinMax .f64 false a b) (w.tape w.drawn (.nanMinMax .f64 false a b))) 1 (Fg7 _)⟩
       have ho':FloatKind.f64.format.order a b=none:=ho
       simp [Builtin.min2,ho',Question.forced];rfl
     · refine ⟨_,w.drewN 1,?_,h (Question.cut (.nanMinMax .f64 true a b) (w.tape w.drawn (.nanMinMax .f64 true a b))) 1 (Fg7 _)⟩
       have ho':FloatKind.f64.format.order a b=none:=ho
       simp [Builtin.max2,ho',Question.forced];rfl
   · rename_i ho
     have ho':FloatKind.f64.format.order a b=some .lt:=ho
     cases isMax
     · exact ⟨_,w,by simp [Builtin.min2,ho'],h⟩
     · exact ⟨_,w,by simp [Builtin.max2,ho'],h⟩
   · rename_i ho
     have ho':FloatKind.f64.format.order a b=some .gt:=ho
     cases isMax
     · exact ⟨_,w,by simp [Builtin.min2,ho'],h⟩
     · exact ⟨_,w,by simp [Builtin.max2,ho'],h⟩
   · rename_i ho
     have ho':FloatKind.f64.format.order a b=some .eq:=ho
     have hd:FloatKind.f64.decode a=Ieee.double.read a:=rfl
     cases isMax
     · refine ⟨_,w,?_,h⟩
       simp only [cond,Builtin.min2,ho',Sem.run_pure,hd]
       cases (Ieee.double.read a).neg<;>rfl
     · refine ⟨_,w,?_,h⟩
       simp only [cond,Builtin.max2,ho',Sem.run_pure,hd]
       cases (Ieee.double.read a).neg<;>rfl
 · exact h.elim
theorem Fl8 {isMax:Bool}:∀ {ys:List Value} {x:Value} {w:World} {K:Value→World→Prop},mmD isMax x ys w K→Dh9 P K (ys.foldlM (cond isMax Builtin.max2 Builtin.min2) x) w
 | [],x,w,K,h=>⟨x,w,rfl,h⟩
 | y::ys,x,w,K,h=>by
   obtain ⟨v,a,b,c⟩:=Go9 (P:=P) h
   obtain ⟨d,e,f,g⟩:=Fl8 c
   refine ⟨d,e,?_,g⟩
   have h1':((cond isMax Builtin.max2 Builtin.min2) x y).run P w = .ok v a:=by cases isMax<;>exact b
   simp only [List.foldlM_cons,Sem.run_bind,h1',Result.andThen_ok,f]
theorem Ee9 (hT:TOk P T) {b:Builtin} {ts:Array TypeId} {ty:Nat} {cs:Array Bool} {args:List Value} {w:World} {K:Value→World→Prop} (h:Ap4 T b ts.toList args w K) :
 Out P K ((builtin b ts ty cs args.toArray).run P w):=by
 unfold Ap4 at h
 split at h
 · -- len of a slice
   obtain ⟨t,ht,h⟩:=Aa3 h
   obtain ⟨ti,hti,h⟩:=Aa3 h
   rw [Ax2] at ht
   have ht':ts[0]?=some t:=by simpa using ht
   obtain ⟨d,hd,hk⟩:=(hT _ _ hti).desc
   split at h
   · rename_i e he
     rw [he] at hk
     cases d<;>(try exact hk.elim)
     exact Af1 ⟨_,w,by simp [Builtin.len_,ht',Ad3 hd,goInt],h⟩
   · exact h.elim
 · -- len of a string
   obtain ⟨t,ht,h⟩:=Aa3 h
   obtain ⟨ti,hti,h⟩:=Aa3 h
   rw [Ax2] at ht
   have ht':ts[0]?=some t:=by simpa using ht
   obtain ⟨d,hd,hk⟩:=(hT _ _ hti).desc
   split at h
   · rename_i he
     rw [he] at hk
     cases d<;>(try exact hk.elim)
     exact Af1 ⟨_,w,by simp [Builtin.len_,ht',Ad3 hd,goInt],h⟩
   · exact h.elim
 · -- len of an array behind a pointer
   obtain ⟨t,ht,h⟩:=Aa3 h
   obtain ⟨ti,hti,h⟩:=Aa3 h
   rw [Ax2] at ht
   have ht':ts[0]?=some t:=by simpa using ht
   obtain ⟨d,hd,hk⟩:=(hT _ _ hti).desc
   split at h
   · rename_i e he
     rw [he] at hk
     cases d<;>(try exact hk.elim)
     cases hk
     obtain ⟨te,hte,h⟩:=Aa3 h
     obtain ⟨f,g,c⟩:=(hT _ _ hte).desc
     split at h
     · rename_i n m i
       rw [i] at c
       cases f<;>(try exact c.elim)
       obtain ⟨hn,_⟩:=c
       subst hn
       exact Af1 ⟨_,w,by simp [Builtin.len_,ht',Ad3 hd,Ad3 g,goInt],h⟩
     · exact h.elim
   · exact h.elim
 · -- len of an array
   obtain ⟨t,ht,h⟩:=Aa3 h
   obtain ⟨ti,hti,h⟩:=Aa3 h
   rw [Ax2] at ht
   have ht':ts[0]?=some t:=by simpa using ht
   obtain ⟨d,hd,hk⟩:=(hT _ _ hti).desc
   split at h
   · rename_i n e he
     rw [he] at hk
     cases d<;>(try exact hk.elim)
     obtain ⟨hn,_⟩:=hk
     subst hn
     exact Af1 ⟨_,w,by simp [Builtin.len_,ht',Ad3 hd,goInt],h⟩
   · exact h.elim
 · -- cap
   obtain ⟨t,ht,h⟩:=Aa3 h
   obtain ⟨ti,hti,h⟩:=Aa3 h
   rw [Ax2] at ht
   have ht':ts[0]?=some t:=by simpa using ht
   obtain ⟨d,hd,hk⟩:=(hT _ _ hti).desc
   split at h
   · rename_i e he
     rw [he] at hk
     cases d<;>(try exact hk.elim)
     exact Af1 ⟨_,w,by simp [Builtin.cap_,ht',Ad3 hd,goInt],h⟩
   · exact h.elim
 · -- append
   obtain ⟨t,ht,h⟩:=Aa3 h
   obtain ⟨ti,hti,h⟩:=Aa3 h
   rw [Ax2] at ht
   have ht':ts[0]?=some t:=by simpa using ht
   obtain ⟨d,hd,hk⟩:=(hT _ _ hti).desc
   split at h
   · rename_i e he
     rw [he] at hk
     cases d<;>(try exact hk.elim)
     cases hk
     obtain ⟨o,l,h⟩:=Aa3 h
     obtain ⟨q,p,h⟩:=Aa3 h
     rw [Ax2] at l
     have ht2':ts[1]?=some o:=by simpa using l
     obtain ⟨f,g,c⟩:=(hT _ _ p).desc
     split at h
     · rename_i m i
       rw [i] at c
       cases f<;>(try exact c.elim)
       obtain ⟨te,hte,h⟩:=Aa3 h
       exact Af1 (Es8 hd rfl g ⟨_,rfl⟩ (hT _ _ hte) ht' ht2' h)
     · exact h.elim
   · exact h.elim
 · -- copy
   obtain ⟨t,ht,h⟩:=Aa3 h
   obtain ⟨ti,hti,h⟩:=Aa3 h
   rw [Ax2] at ht
   have ht':ts[0]?=some t:=by simpa using ht
   obtain ⟨d,hd,hk⟩:=(hT _ _ hti).desc
   split at h
   · rename_i e he
     rw [he] at hk
     cases d<;>(try exact hk.elim)
     cases hk
     obtain ⟨te,hte,h⟩:=Aa3 h
     exact Af1 (Fs7 hd rfl (hT _ _ hte) ht' h)
   · exact h.elim
 · -- max
   refine Af1 ?_
   obtain ⟨v,w',j,k⟩:=Fl8 (P:=P) h
   exact ⟨v,w',by simpa [Builtin.max_] using j,k⟩
 · -- min
   refine Af1 ?_
   obtain ⟨v,w',j,k⟩:=Fl8 (P:=P) h
   exact ⟨v,w',by simpa [Builtin.min_] using j,k⟩
 · exact h.elim
end
end Go.Eng
/-
  Each operation of the definitional reading is sound: all operations in one theorem. No condition but that the table of types is the program's.
-/
namespace Go.Eng
open Go
section
variable {P:Program} {T:Nat→Option TI}
theorem Fg9 {ti:TI} {K:Value→Prop} (h:Gy4 ti K):∃ v,K v:=by
 rcases As2 h with ⟨_,h⟩ | ⟨_,h⟩
 · have:∀ cs {K:List Value→Prop},Gx3 cs K→∃ vs,K vs:=by
    intro cs
    induction cs with
    | nil=>exact fun h=>⟨[],h⟩
    | cons c cs ih=>
      intro K hh
      obtain ⟨v,hv⟩:=Ee5 hh
      obtain ⟨vs,hvs⟩:=ih hv
      exact ⟨_,hvs⟩
   obtain ⟨vs,hvs⟩:=this _ h
   exact ⟨_,hvs⟩
 · exact Ee5 h
theorem Ek1:∀ {ts:List Nat} {K:List Value→Prop},Fp2 T ts K→∃ vs,K vs
 | [],K,h=>⟨[],h⟩
 | t::ts,K,h=>by
   simp only [Fp2] at h
   cases ht:T t with
   | none=>simp [ht] at h
   | some ti=>
     simp only [ht] at h
     obtain ⟨v,hv⟩:=Fg9 h
     obtain ⟨vs,hvs⟩:=Ek1 hv
     exact ⟨_,hvs⟩
theorem Ft4 {ty:Nat} {K:Value→Prop} (h:Fs2 T ty K):∃ v,K v:=by
 unfold Fs2 at h
 split at h
 · split at h
   · obtain ⟨vs,hvs⟩:=Ek1 h;exact ⟨_,hvs⟩
   · exact Fg9 h
 · exact h.elim
theorem Fu1 {K K':Value→World→Prop} {r:Result Next} (h:∀ v w,K v w→K' v w) (hh:Out P K r):Out P K' r:=by
 unfold Out at hh ⊢
 split at hh
 · exact h _ _ hh
 · exact h _ _ hh
 · exact hh.mono fun e w' ⟨v,he,hk⟩=>⟨v,he,h _ _ hk⟩
 · exact hh.elim
theorem Aa1.mono {f:FuncId} {args:Array Value} {w:World} {K K':Value→World→Prop} (hh:Aa1 P f args w K) (h:∀ v w,K v w→K' v w):Aa1 P f args w K':=Fu1 h hh
theorem Ey8 (hT:TOk P T) (hZ:Cf0 T) {e:Env} {ρ:Operand→Value} (he:Gg4 e ρ) {o:Oper} {w:World} {K:Value→World→Prop} (h:opD P T e o.type o.op w K) :
 Out P K ((execOp ρ o).run P w):=by
 obtain ⟨dst,op,ty,pos,after,guard⟩:=o
 cases op with
 | move x=>
   obtain ⟨v,hv,h⟩:=Ab3 h
   simp only [execOp,he _ _ hv,Sem.run_pure];exact h
 | assign x=>
   obtain ⟨v,hv,h⟩:=Ab3 h
   simp only [execOp,he _ _ hv,Sem.run_pure];exact h
 | pick c a b=>
   obtain ⟨v,hv,h⟩:=Ab3 h
   split at h
   · rename_i t
     rcases As2 h with ⟨rfl,h⟩ | ⟨rfl,h⟩
     · obtain ⟨u,hu,h⟩:=Ab3 h
       simp only [execOp,he _ _ hv,he _ _ hu,asBool,Sem.run_bind,Sem.run_pure,Result.andThen_ok,if_true];exact h
     · obtain ⟨u,hu,h⟩:=Ab3 h
       simp only [execOp,he _ _ hv,he _ _ hu,asBool,Sem.run_bind,Sem.run_pure,Result.andThen_ok,AA,if_false];exact h
   · exact h.elim
 | alloc t=>
   obtain ⟨ti,hti,h⟩:=Aa3 h
   refine Af1 ⟨_,_,?_,h⟩
   simp only [Instr.alloc,Sem.run_bind,Bq8 (hT _ _ hti),Result.andThen_ok,newVar,newRow,run_newObj,Sem.run_pure,Bh7]
   rfl
 | box t x=>
   obtain ⟨v,hv,h⟩:=Ab3 h
   refine Af1 ⟨_,_,?_,h⟩
   simp only [Instr.box,he _ _ hv,Sem.run_bind,Result.andThen_ok,newVar,newRow,run_newObj,Sem.run_pure,Bh7]
   rfl
 | build t ps=>
   obtain ⟨ti,hti,h⟩:=Aa3 h
   exact Af1 (Fk1 (hT _ _ hti) hT he h)
 | buildSlice t n ps=>
   obtain ⟨ti,hti,h⟩:=Aa3 h
   exact Af1 (Dd2 (hT _ _ hti) hT he h)
 | load t a=>
   obtain ⟨ti,hti,h⟩:=Aa3 h
   obtain ⟨p,hp,h⟩:=Ab3 h
   obtain ⟨a,v,rfl,hr,hk⟩:=Eb4 (hT _ _ hti) (hZ _ _ hti) h
   refine Af1 ⟨v,w,?_,hk⟩
   simp only [Instr.loadAt,he _ _ hp,Instr.sureAddr,Sem.run_bind,Sem.run_pure,Result.andThen_ok,hr]
 | store t a x=>
   obtain ⟨ti,hti,h⟩:=Aa3 h
   obtain ⟨p,hp,h⟩:=Ab3 h
   obtain ⟨v,hv,h⟩:=Ab3 h
   obtain ⟨a,w',rfl,hr,hk⟩:=Eu0 (hT _ _ hti) h
   simp only [execOp,Instr.storeAt,he _ _ hp,he _ _ hv,Instr.sureAddr,Sem.run_bind,Sem.run_pure,Result.andThen_ok,hr]
   exact hk
 | nilCheck x=>
   obtain ⟨v,hv,h⟩:=Ab3 h
   split at h
   · obtain ⟨a,rfl,h⟩:=Am6 h
     simp only [execOp,he _ _ hv,Sem.run_pure];exact h
   · simp only [execOp,he _ _ hv,Sem.run_pure];exact h
   · exact h.elim
 | binOp bop t x y aa=>
   obtain ⟨ti,hti,h⟩:=Aa3 h
   obtain ⟨a,ha,h⟩:=Ab3 h
   obtain ⟨b,hb,h⟩:=Ab3 h
   refine Af1 ?_
   obtain ⟨v,w',hr,hk⟩:=Gh2 (P:=P) (hT _ _ hti) h
   refine ⟨v,w',?_,hk⟩
   simp only [he _ _ ha,he _ _ hb,Sem.run_bind,Et8 (hT _ _ hti) h,Result.andThen_ok,hr]
 | unOp uop t x=>
   obtain ⟨v,hv,h⟩:=Ab3 h
   have:=Gt8 (P:=P) h
   rw [← he _ _ hv] at this
   exact Af1 this
 | convert sT dT x=>
   obtain ⟨ts,hts,h⟩:=Aa3 h
   obtain ⟨td,htd,h⟩:=Aa3 h
   obtain ⟨v,hv,h⟩:=Ab3 h
   have:=Fs5 (P:=P) (hT _ _ hts) (hT _ _ htd) h
   rw [← he _ _ hv] at this
   exact Af1 this
 | makeFunc fn a b=>
   obtain ⟨va,hva,h⟩:=Aa3 h
   obtain ⟨vb,hvb,h⟩:=Aa3 h
   refine Af1 ⟨_,w,?_,h⟩
   have g:=Er4 he hva
   have k:=Er4 he hvb
   simp only [Instr.makeFunc,Sem.run_pure]
   congr 2
   · apply Array.ext';simp [g]
   · apply Array.ext';simp [k]
 | makeSlice t l c=>
   obtain ⟨ti,hti,h⟩:=Aa3 h
   obtain ⟨d,hd,hk⟩:=(hT _ _ hti).desc
   split at h
   · rename_i el hel
     rw [hel] at hk
     cases d<;>(try exact hk.elim)
     cases hk
     obtain ⟨te,hte,h⟩:=Aa3 h
     obtain ⟨vl,hvl,h⟩:=Ab3 h
     obtain ⟨vc,hvc,h⟩:=Ab3 h
     split at h
     · obtain ⟨q,z,j,h3,h⟩:=h
       refine Af1 ⟨_,_,?_,h⟩
       rw [he _ _ hvl,he _ _ hvc]
       exact Di9 hd rfl (hT _ _ hte) q z j h3 w
     · exact h.elim
   · exact h.elim
 | slice t x lo hi mx=>
   obtain ⟨ti,hti,h⟩:=Aa3 h
   obtain ⟨v,hv,h⟩:=Ab3 h
   obtain ⟨l,hl,h⟩:=Aa3 h
   obtain ⟨hh,hhi,h⟩:=Aa3 h
   obtain ⟨m,hm,h⟩:=Aa3 h
   have:=Ef7 (P:=P) (hT _ _ hti) hT h
   rw [← he _ _ hv,← Fb9 he hl,← Fb9 he hhi,← Fb9 he hm] at this
   exact Af1 this
 | fieldAddr t x i=>
   obtain ⟨ti,hti,h⟩:=Aa3 h
   cases hx:ev e x with
   | none=>
     exfalso
     split at h
     · obtain ⟨f,_,h⟩:=Aa3 h
       obtain ⟨s,_,h⟩:=Aa3 h
       rcases As2 h with ⟨_,h⟩ | ⟨_,h⟩
       · exact h
       · simp [hx,Ar1] at h
     · exact h
   | some v=>
     simp only [hx,Ar1] at h
     have:=Ed4 (P:=P) (v:=v) (K:=K) (hT _ _ hti) hT h
     rw [← he _ _ hx] at this
     exact Af1 this
 | field t x i=>
   obtain ⟨ti,hti,h⟩:=Aa3 h
   cases hx:ev e x with
   | none=>
     exfalso
     split at h
     · obtain ⟨f,_,h⟩:=Aa3 h
       obtain ⟨s,_,h⟩:=Aa3 h
       simp [hx,Ar1] at h
     · exact h
   | some v=>
     simp only [hx,Ar1] at h
     have:=Ez1 (P:=P) (v:=v) (K:=K) (hT _ _ hti) hT h
     rw [← he _ _ hx] at this
     exact Af1 this
 | indexAddr t x ix=>
   obtain ⟨ti,hti,h⟩:=Aa3 h
   obtain ⟨v,hv,h⟩:=Ab3 h
   obtain ⟨vi,hvi,h⟩:=Ab3 h
   have:=Ed6 (P:=P) (hT _ _ hti) hT h
   rw [← he _ _ hv,← he _ _ hvi] at this
   exact Af1 this
 | index t x ix=>
   obtain ⟨ti,hti,h⟩:=Aa3 h
   obtain ⟨v,hv,h⟩:=Ab3 h
   obtain ⟨vi,hvi,h⟩:=Ab3 h
   have:=Fe0 (P:=P) (hT _ _ hti) hT h
   rw [← he _ _ hv,← he _ _ hvi] at this
   exact Af1 this
 | extract x i=>
   obtain ⟨v,hv,h⟩:=Ab3 h
   split at h
   · rename_i vs
     obtain ⟨u,hu,h⟩:=Aa3 h
     rw [Ax2] at hu
     have hu':vs[i]?=some u:=by simpa using hu
     refine Af1 ⟨u,w,?_,h⟩
     simp only [he _ _ hv,Instr.extract,hu',Sem.run_pure]
   · exact h.elim
 | call c=>
   obtain ⟨args,hargs,h⟩:=Aa3 h
   obtain ⟨callee,cargs,ctypes⟩:=c
   have g:cargs.map ρ=args.toArray:=by
    have:=Er4 he hargs
    apply Array.ext';simp [← this]
   cases callee with
   | builtin b=>
     have:=Ee9 (P:=P) (ty:=ty) (cs:=cargs.map fun | .const _=>true | _=>false) hT h
     simp only [execOp,resolve,Sem.run_bind,Sem.run_pure,Result.andThen_ok,invoke,g]
     exact this
   | value f=>
     obtain ⟨v,hv,h⟩:=Ab3 h
     obtain ⟨fid,first,cap,rfl⟩:∃ fid first cap,v = .func (.func fid) first cap:=by
      unfold fnM at h;split at h
      · exact ⟨_,_,_,rfl⟩
      · exact h.elim
     have h':Aa1 P fid (first.toList++(args++cap.toList)).toArray w fun v w'=>Fs2 T ty fun u=>v=u∧K u w':=h
     have j:=h'.mono (K':=K) fun v w' hr=>by
      obtain ⟨u,hu,hk⟩:=Ft4 hr
      rw [hu];exact hk
     simp only [execOp,resolve,Deferred.ofValue,he _ _ hv,Sem.run_bind,Sem.run_pure,Result.andThen_ok,invoke,g]
     unfold Aa1 at j
     have k:first++args.toArray++cap=(first.toList++(args++cap.toList)).toArray:=by
      apply Array.ext';simp
     rw [k]
     exact j
   | invoke r m=>exact h.elim
 | _=>exact (show False from h).elim
end
end Go.Eng
