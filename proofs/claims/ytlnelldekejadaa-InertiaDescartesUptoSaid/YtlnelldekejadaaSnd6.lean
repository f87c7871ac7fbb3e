/-
  Each operation of the definitional reading is sound (continued): slices, fields, elements, append and copy. No condition but that the table of types is the program's.
-/
import Derived.Test.YtlnelldekejadaaSnd3
set_option linter.all false
namespace Go.Eng
open Go
section
variable {P:Program} {T:Nat→Option TI}
theorem rep_length (l:List Value) (n:Nat):(rep l n).length=n*l.length:=by
  induction n with
  | zero=>simp [rep]
  | succ n ih=>simp [rep,ih,Nat.succ_mul,Nat.add_comm]
theorem rep_get (l:List Value) (n i:Nat) (h:i<n*l.length):(rep l n)[i]?=l[i%l.length]?:=by
  induction n generalizing i with
  | zero=>simp at h
  | succ n ih=>
    rw [Nat.succ_mul] at h
    by_cases hi:i<l.length
    · simp [rep,List.getElem?_append_left hi,Nat.mod_eq_of_lt hi]
    · have hp:0<l.length:=by
        rcases Nat.eq_zero_or_pos l.length with h0 | h0
        · rw [h0] at h;simp at h
        · exact h0
      have hi':l.length≤i:=by omega
      rw [rep,List.getElem?_append_right hi',ih (i-l.length) (by omega)]
      congr 1
      rw [Nat.mod_eq_sub_mod hi']
theorem rep_row (z:Array Value) (n:Nat):((Array.range (n*z.size)).map (z[· % z.size]!))=(rep z.toList n).toArray:=by
  apply Array.ext_getElem?
  intro i
  by_cases h:i<n*z.size
  · have hl:i<n*z.toList.length:=by simpa using h
    have hz:0<z.size:=by
      rcases Nat.eq_zero_or_pos z.size with h0 | h0
      · rw [h0] at h;simp at h
      · exact h0
    have hm:i%z.size<z.size:=Nat.mod_lt _ hz
    have e1:(rep z.toList n).toArray[i]?=z.toList[i%z.toList.length]?:=by rw [List.getElem?_toArray,rep_get _ _ _ hl]
    rw [e1]
    simp [h,hm]
  · have h1:(rep z.toList n).length≤i:=by rw [rep_length];simpa using h
    have e1:(rep z.toList n).toArray[i]?=none:=by rw [List.getElem?_toArray,List.getElem?_eq_none h1]
    rw [e1]
    simp;omega
theorem run_buildSlice {t:Nat} {ti:TI} (ht:TIOk P t ti) (hT:TOk P T) {n:Nat} {ps:Array (Nat×Operand)} {e:Env} {ρ:Operand→Value} (he:EvOk e ρ) {w:World} {K:Value→World→Prop}
    (h:match ti.d with
    | .slice el=>bindL (T el) fun te=>bindL (evps e ps.toList) fun vs=>
      cond (Nat.ble (n*te.size) 4096) (cond (Nat.beq (vcells te.zero).length te.size)
        (bindL (fillL (fun i=>some (i*te.size,te.size)) (rep (vcells te.zero) n) vs) fun cs=>newM cs.toArray el w fun p w'=>K (.slice (some p) n n) w') False) False
    | _=>False):OutV P K (Instr.buildSlice t n (ps.map fun (i,x)=>(i,ρ x))) w:=by
  obtain ⟨d,hd,hk⟩:=ht.desc
  split at h
  · rename_i el hel
    rw [hel] at hk
    cases d<;>(try exact hk.elim)
    cases hk
    obtain ⟨te,hte,h⟩:=bindL_some h
    obtain ⟨vs,hvs,h⟩:=bindL_some h
    obtain ⟨hb,h⟩:=cond_true h
    obtain ⟨hb2,h⟩:=cond_true h
    obtain ⟨cs,hcs,h⟩:=bindL_some h
    refine ⟨_,_,?_,h⟩
    have hparts:(ps.map fun (i,x)=>(i,ρ x)).toList=vs:=by
      have:=evps_ok he hvs
      simpa using this
    have hle:=Nat.le_of_ble_eq_true hb
    have hsz:=Nat.eq_of_beq_eq_true hb2
    have hsz':te.zero.cells.size=te.size:=by rw [vcells_eq] at hsz;simpa using hsz
    have hfill:=fill_ok hcs
    have h24 : ¬ n*te.size>2^24:=by omega
    simp only [Instr.buildSlice,Sem.run_bind,run_und hd,Result.andThen_ok,run_size (hT _ _ hte),if_neg h24]
    by_cases h0:n*te.size=0
    · have hr0:rep (vcells te.zero) n = []:=by
        apply List.eq_nil_of_length_eq_zero
        rw [rep_length,hsz];exact h0
      rw [hr0] at hfill
      simp only [h0,if_true,Sem.run_bind,Sem.run_pure,Result.andThen_ok]
      have:(Array.map (fun x=>(#[]:Array Value)[x%(#[]:Array Value).size]!) (Array.range 0))=([]:List Value).toArray:=by simp
      rw [this,hparts,hfill]
      rfl
    · simp only [h0,if_false,Sem.run_bind,run_zero (hT _ _ hte),Result.andThen_ok,Sem.run_pure]
      have:=rep_row te.zero.cells n
      rw [hsz'] at this
      rw [hsz',this,← vcells_eq,hparts,hfill]
      rfl
  · exact h.elim
theorem run_makeSlice {t el:Nat} {te:TI} {d:TypeDesc} (hd:P.underlying t=some d) (hk:d = .slice el) (hte:TIOk P el te) {l c:Int} (h0:0≤l) (h1:l≤c) (h2:c≤1099511627776) (h3:c*te.bytes≤281474976710656) (w:World) :
    (Instr.makeSlice t (.int .i64 l) (.int .i64 c)).run P w = .ok (.slice (some (nxt w)) l.toNat c.toNat) (w.alloc (.cells (zrow (c.toNat*te.size) (vcells te.zero).toArray) el)):=by
  subst hk
  have wl:IntKind.i64.wrap l=l:=by simp only [IntKind.wrap,IntKind.bits,IntKind.signed];simp;omega
  have wc:IntKind.i64.wrap c=c:=by simp only [IntKind.wrap,IntKind.bits,IntKind.signed];simp;omega
  obtain ⟨i,hi,hs,hb,hz⟩:=hte.info
  have hti:(typeInfo el).run P w = .ok i w:=by simp [typeInfo,hi]
  have hbig:(decide (c<0)||decide ((↑i.bytes:Int)*c>2^48))=false:=by
    rw [hb]
    have:(te.bytes:Int)*c=c*te.bytes:=Int.mul_comm _ _
    simp
    omega
  simp only [Instr.makeSlice,Sem.run_bind,run_und hd,Result.andThen_ok,asInt,asIntOf,Sem.run_pure,hti,wl,wc]
  have hc1 : ¬ ((decide (c<0)||decide ((↑i.bytes:Int)*c>2^48)||decide (l<0)||decide (l>c))=true):=by
    rw [hbig];simp;omega
  rw [if_neg hc1]
  simp only [run_askRoom,Sem.run_bind,Result.andThen_ok,run_size hte,vcells_arr]
  by_cases hn:c.toNat*te.size=0
  · have hz0:∀ z:Array Value,zrow 0 z = #[]:=fun z=>by simp [zrow]
    simp only [hn,if_true,Sem.run_pure,Result.andThen_ok,newRow,run_newObj,Sem.run_bind,hz0]
    have:(Array.map (fun x=>(#[]:Array Value)[x%(#[]:Array Value).size]!) (Array.range 0)) = #[]:=by simp
    rw [this]
    rfl
  · simp only [hn,if_false,run_zero hte,Sem.run_pure,Result.andThen_ok,newRow,run_newObj,Sem.run_bind]
    rfl
theorem run_sliceAt {t:Nat} {ti:TI} (ht:TIOk P t ti) (hT:TOk P T) {v:Value} {lo hi mx:Option Value} {w:World} {K:Value→World→Prop}
    (h:match ti.d,v with
    | .slice el,.slice a len cap=>bindL (sizeT T el) fun s=>sliceD s a len cap lo hi mx fun v=>K v w
    | .array n el,.pointer p=>optM p fun a=>bindL (sizeT T el) fun s=>sliceD s (some a) n n lo hi mx fun v=>K v w
    | _,_=>False):OutV P K (Instr.sliceAt t v lo hi mx) w:=by
  obtain ⟨d,hd,hk⟩:=ht.desc
  split at h
  · rename_i el a len cap hel
    rw [hel] at hk
    cases d<;>(try exact hk.elim)
    cases hk
    obtain ⟨s,hs,h⟩:=bindL_some h
    obtain ⟨l,hh,m,hr,h⟩:=sliceD_ok (P:=P) h true
    refine ⟨_,w,?_,h⟩
    simp only [sizeT] at hs
    cases hte:T el with
    | none=>simp [hte] at hs
    | some te=>
      simp [hte] at hs
      subst hs
      simp only [Instr.sliceAt,Instr.slice,Sem.run_bind,run_und hd,Result.andThen_ok,hr,run_size (hT _ _ hte),Sem.run_pure]
      rfl
  · rename_i n el p hel
    rw [hel] at hk
    cases d<;>(try exact hk.elim)
    obtain ⟨hk1,hk2⟩:=hk
    subst hk1;subst hk2
    obtain ⟨a,rfl,h⟩:=optM_some h
    obtain ⟨s,hs,h⟩:=bindL_some h
    obtain ⟨l,hh,m,hr,h⟩:=sliceD_ok (P:=P) h false
    refine ⟨_,w,?_,h⟩
    simp only [sizeT] at hs
    cases hte:T el with
    | none=>simp [hte] at hs
    | some te=>
      simp [hte] at hs
      subst hs
      simp only [Instr.sliceAt,Instr.sureAddr,Sem.run_bind,run_und hd,Result.andThen_ok,hr,run_size (hT _ _ hte),Sem.run_pure,slBase]
      congr 2
      split<;>rfl
  · exact h.elim
theorem run_fieldAt {t:Nat} {ti:TI} (ht:TIOk P t ti) (hT:TOk P T) {v:Value} {i:Nat} {w:World} {K:Value→World→Prop}
    (h:match ti.d with
    | .struct fs=>bindL (nth fs i) fun f=>bindL (sizeT T f.1) fun s=>cond (Nat.beq s 0) False (match v with
      | .pointer p=>optM p fun a=>K (.pointer (some (a.add f.2))) w
      | _=>False)
    | _=>False):OutV P K (Instr.fieldAt t v i) w:=by
  obtain ⟨d,hd,hk⟩:=ht.desc
  split at h
  · rename_i fs hfs
    rw [hfs] at hk
    cases d<;>(try exact hk.elim)
    rename_i fields
    have hk':fs=fields.toList.map fun f=>(f.type,f.offset):=hk
    subst hk'
    obtain ⟨f,hf,h⟩:=bindL_some h
    obtain ⟨s,hs,h⟩:=bindL_some h
    rcases cond_or h with ⟨_,h⟩ | ⟨hs0,h⟩
    · exact h.elim
    cases v<;>(try exact h.elim)
    obtain ⟨a,rfl,h⟩:=optM_some h
    rw [nth_eq] at hf
    simp only [List.getElem?_map,Option.map_eq_some_iff] at hf
    obtain ⟨fd,hfd,rfl⟩:=hf
    have hfd':fields[i]?=some fd:=by simpa using hfd
    refine ⟨_,w,?_,h⟩
    simp only [sizeT] at hs
    cases hte:T fd.type with
    | none=>simp [hte] at hs
    | some te=>
      simp [hte] at hs
      subst hs
      have hne : ¬ te.size=0:=by intro e;rw [e] at hs0;cases hs0
      simp only [Instr.fieldAt,Sem.run_bind,run_und hd,Result.andThen_ok,hfd',Instr.sureAddr,Sem.run_pure,fieldPlace,run_size (hT _ _ hte),if_neg hne]
  · exact h.elim
theorem run_field {t:Nat} {ti:TI} (ht:TIOk P t ti) (hT:TOk P T) {v:Value} {i:Nat} {w:World} {K:Value→World→Prop}
    (h:match ti.d with
    | .struct fs=>bindL (nth fs i) fun f=>bindL (T f.1) fun tf=>match v with
      | .agg cs=>cond tf.d.isAgg (K (.agg ((cs.toList.drop f.2).take tf.size).toArray) w) (bindL (nth cs.toList f.2) fun v=>K v w)
      | _=>False
    | _=>False):OutV P K (Instr.field t v i) w:=by
  obtain ⟨d,hd,hk⟩:=ht.desc
  split at h
  · rename_i fs hfs
    rw [hfs] at hk
    cases d<;>(try exact hk.elim)
    rename_i fields
    have hk':fs=fields.toList.map fun f=>(f.type,f.offset):=hk
    subst hk'
    obtain ⟨f,hf,h⟩:=bindL_some h
    obtain ⟨tf,htf,h⟩:=bindL_some h
    obtain ⟨cs,rfl⟩:∃ cs,v = .agg cs:=by cases v<;>first | exact ⟨_,rfl⟩ | exact h.elim
    rw [nth_eq] at hf
    simp only [List.getElem?_map,Option.map_eq_some_iff] at hf
    obtain ⟨fd,hfd,rfl⟩:=hf
    have hfd':fields[i]?=some fd:=by simpa using hfd
    have hte:=hT _ _ htf
    rcases cond_or h with ⟨hb,h⟩ | ⟨hb,h⟩
    · refine ⟨_,w,?_,h⟩
      simp only [Instr.field,Sem.run_bind,run_und hd,Result.andThen_ok,hfd',asAgg,Sem.run_pure,part,run_agg hte,hb,if_true,run_size hte]
      congr 2
      apply Array.ext'
      simp [Array.toList_extract,List.extract_eq_take_drop]
    · obtain ⟨u,hu,h⟩:=bindL_some h
      refine ⟨_,w,?_,h⟩
      rw [nth_eq] at hu
      have hu':cs[fd.offset]?=some u:=by simpa using hu
      simp only [Instr.field,Sem.run_bind,run_und hd,Result.andThen_ok,hfd',asAgg,Sem.run_pure,part,run_agg hte,hb,Bool.false_eq_true,if_false,hu']
  · exact h.elim
theorem run_indexAt {t:Nat} {ti:TI} (ht:TIOk P t ti) (hT:TOk P T) {v vi:Value} {w:World} {K:Value→World→Prop}
    (h:match ti.d,v,vi with
    | .slice el,.slice a len _,.int _ i=>bindL (sizeT T el) fun s=>0≤i∧i<len∧optM a fun a=>K (.pointer (some (a.add (i.toNat*s)))) w
    | .array n el,.pointer p,.int _ i=>bindL (sizeT T el) fun s=>0≤i∧i<n∧optM p fun a=>K (.pointer (some (a.add (i.toNat*s)))) w
    | _,_,_=>False):OutV P K (Instr.indexAt t v vi) w:=by
  obtain ⟨d,hd,hk⟩:=ht.desc
  split at h
  · rename_i el a len cap k i hel
    rw [hel] at hk
    cases d<;>(try exact hk.elim)
    cases hk
    obtain ⟨s,hs,h0,h1,h⟩:=bindL_some h
    obtain ⟨x,rfl,h⟩:=optM_some h
    refine ⟨_,w,?_,h⟩
    simp only [sizeT] at hs
    cases hte:T el with
    | none=>simp [hte] at hs
    | some te=>
      simp [hte] at hs
      subst hs
      simp only [Instr.indexAt,asIntOf,Sem.run_bind,Sem.run_pure,run_und hd,Result.andThen_ok]
      rw [if_pos ⟨h0,h1⟩]
      simp only [Sem.run_bind,run_size (hT _ _ hte),Result.andThen_ok,Sem.run_pure]
  · rename_i n el p k i hel
    rw [hel] at hk
    cases d<;>(try exact hk.elim)
    obtain ⟨hk1,hk2⟩:=hk
    subst hk1;subst hk2
    obtain ⟨s,hs,h0,h1,h⟩:=bindL_some h
    obtain ⟨x,rfl,h⟩:=optM_some h
    refine ⟨_,w,?_,h⟩
    simp only [sizeT] at hs
    cases hte:T el with
    | none=>simp [hte] at hs
    | some te=>
      simp [hte] at hs
      subst hs
      simp only [Instr.indexAt,asIntOf,Sem.run_bind,Sem.run_pure,run_und hd,Result.andThen_ok,Instr.sureAddr]
      rw [if_pos ⟨h0,h1⟩]
      simp only [Sem.run_bind,run_size (hT _ _ hte),Result.andThen_ok,Sem.run_pure]
  · exact h.elim
theorem run_index {t:Nat} {ti:TI} (ht:TIOk P t ti) (hT:TOk P T) {v vi:Value} {w:World} {K:Value→World→Prop}
    (h:match ti.d,v,vi with
    | .array n el,.agg cs,.int _ i=>bindL (T el) fun te=>cond te.d.isAgg False (0≤i∧i<n∧∃ v,cs[i.toNat*te.size]?=some v∧K v w)
    | .string,.string s,.int _ i=>0≤i∧∃ b:UInt8,s[i.toNat]?=some b∧K (.int .u8 b.toNat) w
    | _,_,_=>False):OutV P K (Instr.index t v vi) w:=by
  obtain ⟨d,hd,hk⟩:=ht.desc
  split at h
  · rename_i n el cs k i hel
    rw [hel] at hk
    cases d<;>(try exact hk.elim)
    obtain ⟨hk1,hk2⟩:=hk
    subst hk1;subst hk2
    obtain ⟨te,hte,h⟩:=bindL_some h
    rcases cond_or h with ⟨_,h⟩ | ⟨hb,h0,h1,u,hu,h⟩
    · exact h.elim
    refine ⟨_,w,?_,h⟩
    simp only [Instr.index,asIntOf,Sem.run_bind,Sem.run_pure,run_und hd,Result.andThen_ok]
    rw [if_pos ⟨h0,h1⟩]
    simp only [Sem.run_bind,run_size (hT _ _ hte),Result.andThen_ok,part,run_agg (hT _ _ hte),hb,Bool.false_eq_true,if_false,hu,Sem.run_pure]
  · rename_i s k i hel
    rw [hel] at hk
    cases d<;>(try exact hk.elim)
    obtain ⟨h0,b,hb,h⟩:=h
    refine ⟨_,w,?_,h⟩
    simp only [Instr.index,asIntOf,Sem.run_bind,Sem.run_pure,run_und hd,Result.andThen_ok]
    rw [if_pos h0,hb]
    rfl
  · exact h.elim
end
end Go.Eng
/-
  Each operation of the definitional reading is sound (continued): append, copy, min, max, calls; all operations in one theorem. No condition but that the table of types is the program's.
-/
namespace Go.Eng
open Go
section
variable {P:Program} {T:Nat→Option TI}
theorem run_firstCells {size n:Nat} {b:Option Addr} {l c:Nat} {w:World} {new:List Value} (hl:new.length=n*size) (h:rowOf w b new) :
    (Builtin.firstCells size n (.slice b l c)).run P w = .ok new.toArray w:=by
  cases b with
  | none=>
    have:new = []:=h
    subst this
    rfl
  | some a=>
    have:=run_row (P:=P) (show rowAt w a new from h)
    simp only [Builtin.firstCells,← hl]
    exact this
theorem growBy_le (L:Nat):∀ (k c:Nat),c≤L+(L+768)/4→Builtin.growBy L k c≤L+(L+768)/4
  | 0,c,h=>by simpa [Builtin.growBy] using h
  | k+1,c,h=>by
    simp only [Builtin.growBy]
    split
    · exact h
    · exact growBy_le L k _ (by omega)
theorem nextcap_le {need old:Nat} (h:old<need):Builtin.nextslicecap need old≤2*need+192:=by
  unfold Builtin.nextslicecap
  split
  · omega
  · split
    · omega
    · have:=growBy_le need 4 old (by omega)
      omega
theorem run_append {t t' el:Nat} {te:TI} {d d':TypeDesc} (hd:P.underlying t=some d) (hk:d = .slice el) (hd':P.underlying t'=some d') (hk':∃ x,d' = .slice x) (hte:TIOk P el te)
    {ts:Array TypeId} (ht:ts[0]?=some t) (ht':ts[1]?=some t') {a b:Option Addr} {len cap n c' ty:Nat} {w:World} {K:Value→World→Prop}
    (h:appM el te.size te.bytes (vcells te.zero).toArray a len cap b n w fun a l c w'=>K (.slice a l c) w'):OutV P K (Builtin.append_ ts ty #[.slice a len cap,.slice b n c']) w:=by
  subst hk
  obtain ⟨x',rfl⟩:=hk'
  obtain ⟨i,hi,hs,hb,hz⟩:=hte.info
  have hti:∀ w,(typeInfo el).run P w = .ok i w:=fun w=>by simp [typeInfo,hi]
  obtain ⟨new,hnl,hnew,hin,hout⟩:=h
  have hfirst:=fun w' (hw':∀ q,w'.cell? q=w.cell? q)=>run_firstCells (P:=P) (w:=w') (size:=te.size) (n:=n) (b:=b) (l:=n) (c:=c') hnl (by
    cases b with
    | none=>exact hnew
    | some x=>exact fun j hj=>by rw [hw'];exact hnew j hj)
  by_cases hroom:len+n≤cap
  · have hin:=hin hroom
    cases a with
    | none=>
      refine ⟨_,w,?_,hin⟩
      have hf:=hfirst w (fun _=>rfl)
      simp [Builtin.append_,ht,ht',run_und hd,run_und hd',run_size hte,Builtin.lenOf,hroom,hf]
    | some x=>
      obtain ⟨hok,hin⟩:=hin
      refine ⟨_,_,?_,hin⟩
      have hf:=hfirst w (fun _=>rfl)
      have hst:=run_setRow (P:=P) hok
      simp [Builtin.append_,ht,ht',run_und hd,run_und hd',run_size hte,Builtin.lenOf,hroom,hf,hst]
  · have hlt:cap<len+n:=by omega
    obtain ⟨h1,h2,h3,old,hol,hold,hout⟩:=hout hlt
    have hcap : ¬ ((Builtin.nextslicecap (len+n) cap)*i.bytes>2^48):=by
      have:=nextcap_le hlt
      rw [hb]
      have h4:Builtin.nextslicecap (len+n) cap*te.bytes≤(2*(len+n)+192)*te.bytes:=Nat.mul_le_mul_right _ this
      have h5:(2*(len+n)+192)*te.bytes=2*((len+n)*te.bytes)+192*te.bytes:=by rw [Nat.add_mul,Nat.mul_assoc]
      omega
    have hmax : ¬ ((9223372036854775807:Int)<(len:Int)+(n:Int)∧i.bytes=0):=by
      intro hc
      have:=hc.1
      omega
    have hoc:(Question.appendCap (len+n) cap el).cut (w.tape w.drawn (.appendCap (len+n) cap el))≥len+n:=by simp [Question.cut]
    refine ⟨_,_,?_,hout _ 1 hoc⟩
    have hf:=hfirst w.drew (fun _=>rfl)
    have hfo:=run_firstCells (P:=P) (w:=w.drew) (size:=te.size) (n:=len) (b:=a) (l:=len) (c:=cap) hol (by
      cases a with
      | none=>exact hold
      | some x=>exact fun j hj=>hold j hj)
    have hcap' : ¬ (2^48<Builtin.nextslicecap (len+n) cap*i.bytes):=hcap
    simp [Builtin.append_,ht,ht',run_und hd,run_und hd',run_size hte,Builtin.lenOf,hroom,hti,hmax,hcap',Question.forced,hf,hfo,run_zero hte,newRow,Builtin.zeroCells,zrow,vcells_eq,nxt]
    have e:∀ r,old.toArray++(new.toArray++r)=(old++new).toArray++r:=fun r=>by rw [← Array.append_assoc];simp
    rw [e];rfl
theorem run_copy {t el:Nat} {te:TI} {d:TypeDesc} (hd:P.underlying t=some d) (hk:d = .slice el) (hte:TIOk P el te)
    {ts:Array TypeId} (ht:ts[0]?=some t) {a b:Option Addr} {len cap n c' ty:Nat} {w:World} {K:Value→World→Prop}
    (h:copM te.size a len b n w fun w'=>K (.int .i64 (min n len:Nat)) w'):OutV P K (Builtin.copy_ ts ty #[.slice a len cap,.slice b n c']) w:=by
  subst hk
  obtain ⟨new,hl,hnew,h⟩:=h
  have hf:(Builtin.firstCells te.size (Nat.min n len) (.slice b n c')).run P w = .ok new.toArray w:=run_firstCells hl hnew
  cases a with
  | none=>
    refine ⟨_,w,?_,h⟩
    simp [Builtin.copy_,ht,run_und hd,run_size hte,Builtin.lenOf,hf,goInt]
  | some x=>
    obtain ⟨hok,h⟩:=h
    refine ⟨_,_,?_,h⟩
    have hst:=run_setRow (P:=P) hok
    simp [Builtin.copy_,ht,run_und hd,run_size hte,Builtin.lenOf,hf,hst,goInt]
theorem mm2_ok {isMax:Bool} {x y:Value} {w:World} {K:Value→World→Prop} (h:mm2 isMax x y w K):OutV P K (cond isMax (Builtin.max2 x y) (Builtin.min2 x y)) w:=by
  unfold mm2 at h
  split at h
  · obtain ⟨hk,h⟩:=cond_true h
    cases isMax
    · exact ⟨_,w,by simp only [cond,Builtin.min2,Sem.run_pure],h⟩
    · exact ⟨_,w,by simp only [cond,Builtin.max2,Sem.run_pure],h⟩
  · rename_i a b
    unfold fmaxD at h
    split at h
    · rename_i ho
      cases isMax
      · refine ⟨_,w.drewN 1,?_,h (Question.cut (.nanMinMax .f64 false a b) (w.tape w.drawn (.nanMinMax .f64 false a b))) 1 (nanCut _)⟩
        have ho':FloatKind.f64.format.order a b=none:=ho
        simp [Builtin.min2,ho',Question.forced];rfl
      · refine ⟨_,w.drewN 1,?_,h (Question.cut (.nanMinMax .f64 true a b) (w.tape w.drawn (.nanMinMax .f64 true a b))) 1 (nanCut _)⟩
        have ho':FloatKind.f64.format.order a b=none:=ho
        simp [Builtin.max2,ho',Question.forced];rfl
    · rename_i ho
      have ho':FloatKind.f64.format.order a b=some .lt:=ho
      cases isMax
      · exact ⟨_,w,by simp [Builtin.min2,ho'],h⟩
      · exact ⟨_,w,by simp [Builtin.max2,ho'],h⟩
    · rename_i ho
      have ho':FloatKind.f64.format.order a b=some .gt:=ho
      cases isMax
      · exact ⟨_,w,by simp [Builtin.min2,ho'],h⟩
      · exact ⟨_,w,by simp [Builtin.max2,ho'],h⟩
    · rename_i ho
      have ho':FloatKind.f64.format.order a b=some .eq:=ho
      have hd:FloatKind.f64.decode a=Ieee.double.read a:=rfl
      cases isMax
      · refine ⟨_,w,?_,h⟩
        simp only [cond,Builtin.min2,ho',Sem.run_pure,hd]
        cases (Ieee.double.read a).neg<;>rfl
      · refine ⟨_,w,?_,h⟩
        simp only [cond,Builtin.max2,ho',Sem.run_pure,hd]
        cases (Ieee.double.read a).neg<;>rfl
  · exact h.elim
theorem mmD_ok {isMax:Bool}:∀ {ys:List Value} {x:Value} {w:World} {K:Value→World→Prop},mmD isMax x ys w K→OutV P K (ys.foldlM (cond isMax Builtin.max2 Builtin.min2) x) w
  | [],x,w,K,h=>⟨x,w,rfl,h⟩
  | y::ys,x,w,K,h=>by
    obtain ⟨v,w1,h1,h2⟩:=mm2_ok (P:=P) h
    obtain ⟨v2,w2,h3,h4⟩:=mmD_ok h2
    refine ⟨v2,w2,?_,h4⟩
    have h1':((cond isMax Builtin.max2 Builtin.min2) x y).run P w = .ok v w1:=by cases isMax<;>exact h1
    simp only [List.foldlM_cons,Sem.run_bind,h1',Result.andThen_ok,h3]
theorem builtinD_ok (hT:TOk P T) {b:Builtin} {ts:Array TypeId} {ty:Nat} {cs:Array Bool} {args:List Value} {w:World} {K:Value→World→Prop} (h:builtinD T b ts.toList args w K) :
    Out P K ((builtin b ts ty cs args.toArray).run P w):=by
  unfold builtinD at h
  split at h
  · -- len of a slice
    obtain ⟨t,ht,h⟩:=bindL_some h
    obtain ⟨ti,hti,h⟩:=bindL_some h
    rw [nth_eq] at ht
    have ht':ts[0]?=some t:=by simpa using ht
    obtain ⟨d,hd,hk⟩:=(hT _ _ hti).desc
    split at h
    · rename_i e he
      rw [he] at hk
      cases d<;>(try exact hk.elim)
      exact out_of_v ⟨_,w,by simp [Builtin.len_,ht',run_und hd,goInt],h⟩
    · exact h.elim
  · -- len of a string
    obtain ⟨t,ht,h⟩:=bindL_some h
    obtain ⟨ti,hti,h⟩:=bindL_some h
    rw [nth_eq] at ht
    have ht':ts[0]?=some t:=by simpa using ht
    obtain ⟨d,hd,hk⟩:=(hT _ _ hti).desc
    split at h
    · rename_i he
      rw [he] at hk
      cases d<;>(try exact hk.elim)
      exact out_of_v ⟨_,w,by simp [Builtin.len_,ht',run_und hd,goInt],h⟩
    · exact h.elim
  · -- len of an array behind a pointer
    obtain ⟨t,ht,h⟩:=bindL_some h
    obtain ⟨ti,hti,h⟩:=bindL_some h
    rw [nth_eq] at ht
    have ht':ts[0]?=some t:=by simpa using ht
    obtain ⟨d,hd,hk⟩:=(hT _ _ hti).desc
    split at h
    · rename_i e he
      rw [he] at hk
      cases d<;>(try exact hk.elim)
      cases hk
      obtain ⟨te,hte,h⟩:=bindL_some h
      obtain ⟨d2,hd2,hk2⟩:=(hT _ _ hte).desc
      split at h
      · rename_i n e2 he2
        rw [he2] at hk2
        cases d2<;>(try exact hk2.elim)
        obtain ⟨hn,_⟩:=hk2
        subst hn
        exact out_of_v ⟨_,w,by simp [Builtin.len_,ht',run_und hd,run_und hd2,goInt],h⟩
      · exact h.elim
    · exact h.elim
  · -- len of an array
    obtain ⟨t,ht,h⟩:=bindL_some h
    obtain ⟨ti,hti,h⟩:=bindL_some h
    rw [nth_eq] at ht
    have ht':ts[0]?=some t:=by simpa using ht
    obtain ⟨d,hd,hk⟩:=(hT _ _ hti).desc
    split at h
    · rename_i n e he
      rw [he] at hk
      cases d<;>(try exact hk.elim)
      obtain ⟨hn,_⟩:=hk
      subst hn
      exact out_of_v ⟨_,w,by simp [Builtin.len_,ht',run_und hd,goInt],h⟩
    · exact h.elim
  · -- cap
    obtain ⟨t,ht,h⟩:=bindL_some h
    obtain ⟨ti,hti,h⟩:=bindL_some h
    rw [nth_eq] at ht
    have ht':ts[0]?=some t:=by simpa using ht
    obtain ⟨d,hd,hk⟩:=(hT _ _ hti).desc
    split at h
    · rename_i e he
      rw [he] at hk
      cases d<;>(try exact hk.elim)
      exact out_of_v ⟨_,w,by simp [Builtin.cap_,ht',run_und hd,goInt],h⟩
    · exact h.elim
  · -- append
    obtain ⟨t,ht,h⟩:=bindL_some h
    obtain ⟨ti,hti,h⟩:=bindL_some h
    rw [nth_eq] at ht
    have ht':ts[0]?=some t:=by simpa using ht
    obtain ⟨d,hd,hk⟩:=(hT _ _ hti).desc
    split at h
    · rename_i e he
      rw [he] at hk
      cases d<;>(try exact hk.elim)
      cases hk
      obtain ⟨t2,ht2,h⟩:=bindL_some h
      obtain ⟨ti2,hti2,h⟩:=bindL_some h
      rw [nth_eq] at ht2
      have ht2':ts[1]?=some t2:=by simpa using ht2
      obtain ⟨d2,hd2,hk2⟩:=(hT _ _ hti2).desc
      split at h
      · rename_i e2 he2
        rw [he2] at hk2
        cases d2<;>(try exact hk2.elim)
        obtain ⟨te,hte,h⟩:=bindL_some h
        exact out_of_v (run_append hd rfl hd2 ⟨_,rfl⟩ (hT _ _ hte) ht' ht2' h)
      · exact h.elim
    · exact h.elim
  · -- copy
    obtain ⟨t,ht,h⟩:=bindL_some h
    obtain ⟨ti,hti,h⟩:=bindL_some h
    rw [nth_eq] at ht
    have ht':ts[0]?=some t:=by simpa using ht
    obtain ⟨d,hd,hk⟩:=(hT _ _ hti).desc
    split at h
    · rename_i e he
      rw [he] at hk
      cases d<;>(try exact hk.elim)
      cases hk
      obtain ⟨te,hte,h⟩:=bindL_some h
      exact out_of_v (run_copy hd rfl (hT _ _ hte) ht' h)
    · exact h.elim
  · -- max
    refine out_of_v ?_
    obtain ⟨v,w',h1,h2⟩:=mmD_ok (P:=P) h
    exact ⟨v,w',by simpa [Builtin.max_] using h1,h2⟩
  · -- min
    refine out_of_v ?_
    obtain ⟨v,w',h1,h2⟩:=mmD_ok (P:=P) h
    exact ⟨v,w',by simpa [Builtin.min_] using h1,h2⟩
  · exact h.elim
end
end Go.Eng
/-
  Each operation of the definitional reading is sound: all operations in one theorem. No condition but that the table of types is the program's.
-/
namespace Go.Eng
open Go
section
variable {P:Program} {T:Nat→Option TI}
theorem ti_some {ti:TI} {K:Value→Prop} (h:tiEx ti K):∃ v,K v:=by
  rcases cond_or h with ⟨_,h⟩ | ⟨_,h⟩
  · have:∀ cs {K:List Value→Prop},exCs cs K→∃ vs,K vs:=by
      intro cs
      induction cs with
      | nil=>exact fun h=>⟨[],h⟩
      | cons c cs ih=>
        intro K hh
        obtain ⟨v,hv⟩:=ex_some hh
        obtain ⟨vs,hvs⟩:=ih hv
        exact ⟨_,hvs⟩
    obtain ⟨vs,hvs⟩:=this _ h
    exact ⟨_,hvs⟩
  · exact ex_some h
theorem tup_some:∀ {ts:List Nat} {K:List Value→Prop},tupEx T ts K→∃ vs,K vs
  | [],K,h=>⟨[],h⟩
  | t::ts,K,h=>by
    simp only [tupEx] at h
    cases ht:T t with
    | none=>simp [ht] at h
    | some ti=>
      simp only [ht] at h
      obtain ⟨v,hv⟩:=ti_some h
      obtain ⟨vs,hvs⟩:=tup_some hv
      exact ⟨_,hvs⟩
theorem ret_some {ty:Nat} {K:Value→Prop} (h:retEx T ty K):∃ v,K v:=by
  unfold retEx at h
  split at h
  · split at h
    · obtain ⟨vs,hvs⟩:=tup_some h;exact ⟨_,hvs⟩
    · exact ti_some h
  · exact h.elim
theorem out_mono {K K':Value→World→Prop} {r:Result Next} (h:∀ v w,K v w→K' v w) (hh:Out P K r):Out P K' r:=by
  unfold Out at hh ⊢
  split at hh
  · exact h _ _ hh
  · exact h _ _ hh
  · exact hh.mono fun e w' ⟨v,he,hk⟩=>⟨v,he,h _ _ hk⟩
  · exact hh.elim
theorem CallsX.mono {f:FuncId} {args:Array Value} {w:World} {K K':Value→World→Prop} (hh:CallsX P f args w K) (h:∀ v w,K v w→K' v w):CallsX P f args w K':=out_mono h hh
theorem opD_ok (hT:TOk P T) (hZ:TSize T) {e:Env} {ρ:Operand→Value} (he:EvOk e ρ) {o:Oper} {w:World} {K:Value→World→Prop} (h:opD P T e o.type o.op w K) :
    Out P K ((execOp ρ o).run P w):=by
  obtain ⟨dst,op,ty,pos,after,guard⟩:=o
  cases op with
  | move x=>
    obtain ⟨v,hv,h⟩:=bindV_some h
    simp only [execOp,he _ _ hv,Sem.run_pure];exact h
  | assign x=>
    obtain ⟨v,hv,h⟩:=bindV_some h
    simp only [execOp,he _ _ hv,Sem.run_pure];exact h
  | pick c a b=>
    obtain ⟨v,hv,h⟩:=bindV_some h
    split at h
    · rename_i t
      rcases cond_or h with ⟨rfl,h⟩ | ⟨rfl,h⟩
      · obtain ⟨u,hu,h⟩:=bindV_some h
        simp only [execOp,he _ _ hv,he _ _ hu,asBool,Sem.run_bind,Sem.run_pure,Result.andThen_ok,if_true];exact h
      · obtain ⟨u,hu,h⟩:=bindV_some h
        simp only [execOp,he _ _ hv,he _ _ hu,asBool,Sem.run_bind,Sem.run_pure,Result.andThen_ok,Bool.false_eq_true,if_false];exact h
    · exact h.elim
  | alloc t=>
    obtain ⟨ti,hti,h⟩:=bindL_some h
    refine out_of_v ⟨_,_,?_,h⟩
    simp only [Instr.alloc,Sem.run_bind,run_zero (hT _ _ hti),Result.andThen_ok,newVar,newRow,run_newObj,Sem.run_pure,vcells_arr]
    rfl
  | box t x=>
    obtain ⟨v,hv,h⟩:=bindV_some h
    refine out_of_v ⟨_,_,?_,h⟩
    simp only [Instr.box,he _ _ hv,Sem.run_bind,Result.andThen_ok,newVar,newRow,run_newObj,Sem.run_pure,vcells_arr]
    rfl
  | build t ps=>
    obtain ⟨ti,hti,h⟩:=bindL_some h
    exact out_of_v (run_build (hT _ _ hti) hT he h)
  | buildSlice t n ps=>
    obtain ⟨ti,hti,h⟩:=bindL_some h
    exact out_of_v (run_buildSlice (hT _ _ hti) hT he h)
  | load t a=>
    obtain ⟨ti,hti,h⟩:=bindL_some h
    obtain ⟨p,hp,h⟩:=bindV_some h
    obtain ⟨a,v,rfl,hr,hk⟩:=run_loadD (hT _ _ hti) (hZ _ _ hti) h
    refine out_of_v ⟨v,w,?_,hk⟩
    simp only [Instr.loadAt,he _ _ hp,Instr.sureAddr,Sem.run_bind,Sem.run_pure,Result.andThen_ok,hr]
  | store t a x=>
    obtain ⟨ti,hti,h⟩:=bindL_some h
    obtain ⟨p,hp,h⟩:=bindV_some h
    obtain ⟨v,hv,h⟩:=bindV_some h
    obtain ⟨a,w',rfl,hr,hk⟩:=run_storeD (hT _ _ hti) h
    simp only [execOp,Instr.storeAt,he _ _ hp,he _ _ hv,Instr.sureAddr,Sem.run_bind,Sem.run_pure,Result.andThen_ok,hr]
    exact hk
  | nilCheck x=>
    obtain ⟨v,hv,h⟩:=bindV_some h
    split at h
    · obtain ⟨a,rfl,h⟩:=optM_some h
      simp only [execOp,he _ _ hv,Sem.run_pure];exact h
    · simp only [execOp,he _ _ hv,Sem.run_pure];exact h
    · exact h.elim
  | binOp bop t x y ty2=>
    obtain ⟨ti,hti,h⟩:=bindL_some h
    obtain ⟨a,ha,h⟩:=bindV_some h
    obtain ⟨b,hb,h⟩:=bindV_some h
    refine out_of_v ?_
    obtain ⟨v,w',hr,hk⟩:=binD_ok (P:=P) (hT _ _ hti) h
    refine ⟨v,w',?_,hk⟩
    simp only [he _ _ ha,he _ _ hb,Sem.run_bind,eqGuard_ok (hT _ _ hti) h,Result.andThen_ok,hr]
  | unOp uop t x=>
    obtain ⟨v,hv,h⟩:=bindV_some h
    have:=unD_ok (P:=P) h
    rw [← he _ _ hv] at this
    exact out_of_v this
  | convert sT dT x=>
    obtain ⟨ts,hts,h⟩:=bindL_some h
    obtain ⟨td,htd,h⟩:=bindL_some h
    obtain ⟨v,hv,h⟩:=bindV_some h
    have:=convD_ok (P:=P) (hT _ _ hts) (hT _ _ htd) h
    rw [← he _ _ hv] at this
    exact out_of_v this
  | makeFunc fn a b=>
    obtain ⟨va,hva,h⟩:=bindL_some h
    obtain ⟨vb,hvb,h⟩:=bindL_some h
    refine out_of_v ⟨_,w,?_,h⟩
    have e1:=evs_ok he hva
    have e2:=evs_ok he hvb
    simp only [Instr.makeFunc,Sem.run_pure]
    congr 2
    · apply Array.ext';simp [e1]
    · apply Array.ext';simp [e2]
  | makeSlice t l c=>
    obtain ⟨ti,hti,h⟩:=bindL_some h
    obtain ⟨d,hd,hk⟩:=(hT _ _ hti).desc
    split at h
    · rename_i el hel
      rw [hel] at hk
      cases d<;>(try exact hk.elim)
      cases hk
      obtain ⟨te,hte,h⟩:=bindL_some h
      obtain ⟨vl,hvl,h⟩:=bindV_some h
      obtain ⟨vc,hvc,h⟩:=bindV_some h
      split at h
      · obtain ⟨h0,h1,h2,h3,h⟩:=h
        refine out_of_v ⟨_,_,?_,h⟩
        rw [he _ _ hvl,he _ _ hvc]
        exact run_makeSlice hd rfl (hT _ _ hte) h0 h1 h2 h3 w
      · exact h.elim
    · exact h.elim
  | slice t x lo hi mx=>
    obtain ⟨ti,hti,h⟩:=bindL_some h
    obtain ⟨v,hv,h⟩:=bindV_some h
    obtain ⟨l,hl,h⟩:=bindL_some h
    obtain ⟨hh,hhi,h⟩:=bindL_some h
    obtain ⟨m,hm,h⟩:=bindL_some h
    have:=run_sliceAt (P:=P) (hT _ _ hti) hT h
    rw [← he _ _ hv,← evo_ok he hl,← evo_ok he hhi,← evo_ok he hm] at this
    exact out_of_v this
  | fieldAddr t x i=>
    obtain ⟨ti,hti,h⟩:=bindL_some h
    cases hx:ev e x with
    | none=>
      exfalso
      split at h
      · obtain ⟨f,_,h⟩:=bindL_some h
        obtain ⟨s,_,h⟩:=bindL_some h
        rcases cond_or h with ⟨_,h⟩ | ⟨_,h⟩
        · exact h
        · simp [hx,bindV] at h
      · exact h
    | some v=>
      simp only [hx,bindV] at h
      have:=run_fieldAt (P:=P) (v:=v) (K:=K) (hT _ _ hti) hT h
      rw [← he _ _ hx] at this
      exact out_of_v this
  | field t x i=>
    obtain ⟨ti,hti,h⟩:=bindL_some h
    cases hx:ev e x with
    | none=>
      exfalso
      split at h
      · obtain ⟨f,_,h⟩:=bindL_some h
        obtain ⟨s,_,h⟩:=bindL_some h
        simp [hx,bindV] at h
      · exact h
    | some v=>
      simp only [hx,bindV] at h
      have:=run_field (P:=P) (v:=v) (K:=K) (hT _ _ hti) hT h
      rw [← he _ _ hx] at this
      exact out_of_v this
  | indexAddr t x ix=>
    obtain ⟨ti,hti,h⟩:=bindL_some h
    obtain ⟨v,hv,h⟩:=bindV_some h
    obtain ⟨vi,hvi,h⟩:=bindV_some h
    have:=run_indexAt (P:=P) (hT _ _ hti) hT h
    rw [← he _ _ hv,← he _ _ hvi] at this
    exact out_of_v this
  | index t x ix=>
    obtain ⟨ti,hti,h⟩:=bindL_some h
    obtain ⟨v,hv,h⟩:=bindV_some h
    obtain ⟨vi,hvi,h⟩:=bindV_some h
    have:=run_index (P:=P) (hT _ _ hti) hT h
    rw [← he _ _ hv,← he _ _ hvi] at this
    exact out_of_v this
  | extract x i=>
    obtain ⟨v,hv,h⟩:=bindV_some h
    split at h
    · rename_i vs
      obtain ⟨u,hu,h⟩:=bindL_some h
      rw [nth_eq] at hu
      have hu':vs[i]?=some u:=by simpa using hu
      refine out_of_v ⟨u,w,?_,h⟩
      simp only [he _ _ hv,Instr.extract,hu',Sem.run_pure]
    · exact h.elim
  | call c=>
    obtain ⟨args,hargs,h⟩:=bindL_some h
    obtain ⟨callee,cargs,ctypes⟩:=c
    have e1:cargs.map ρ=args.toArray:=by
      have:=evs_ok he hargs
      apply Array.ext';simp [← this]
    cases callee with
    | builtin b=>
      have:=builtinD_ok (P:=P) (ty:=ty) (cs:=cargs.map fun | .const _=>true | _=>false) hT h
      simp only [execOp,resolve,Sem.run_bind,Sem.run_pure,Result.andThen_ok,invoke,e1]
      exact this
    | value f=>
      obtain ⟨v,hv,h⟩:=bindV_some h
      obtain ⟨fid,first,cap,rfl⟩:∃ fid first cap,v = .func (.func fid) first cap:=by
        unfold fnM at h;split at h
        · exact ⟨_,_,_,rfl⟩
        · exact h.elim
      have h':CallsX P fid (first.toList++(args++cap.toList)).toArray w fun v w'=>retEx T ty fun u=>v=u∧K u w':=h
      have h2:=h'.mono (K':=K) fun v w' hr=>by
        obtain ⟨u,hu,hk⟩:=ret_some hr
        rw [hu];exact hk
      simp only [execOp,resolve,Deferred.ofValue,he _ _ hv,Sem.run_bind,Sem.run_pure,Result.andThen_ok,invoke,e1]
      unfold CallsX at h2
      have e2:first++args.toArray++cap=(first.toList++(args++cap.toList)).toArray:=by
        apply Array.ext';simp
      rw [e2]
      exact h2
    | invoke r m=>exact h.elim
  | _=>exact (show False from h).elim
end
end Go.Eng
