/-
  Each operation of the definitional reading is sound: if 'opD' holds, the model's own operation comes to a value of which what was asked holds. No condition but that the table of types is the program's.
-/
import Derived.Test.YtlnelldekejadaaEng
import Derived.Laws.Sem
import Derived.Laws.World
import Derived.ChangeKeysEq
import Derived.Laws.Cells
import Derived.Laws.StructEq
import Derived.Laws.FloatArith
import Derived.Laws.Append
set_option linter.all false
namespace Go.Eng
open Go
def TDOk:TD→TypeDesc→Prop
  | .bool,.bool=>True
  | .int k,.int k'=>k=k'
  | .float k,.float k'=>k=k'
  | .string,.string=>True
  | .ptr e,.pointer e'=>e=e'
  | .slice e,.slice e'=>e=e'
  | .array n e,.array n' e'=>n=n'∧e=e'
  | .struct fs,.struct fields=>fs=fields.toList.map fun f=>(f.type,f.offset)
  | .tuple ts,.tuple es=>ts=es.toList
  | .func,.func _ _ _=>True
  | .other,d=>match d with | .struct _=>False | .array _ _=>False | _=>True
  | _,_=>False
def Eq3 (P:Program) (t:Nat):Prop:=P.eqGuardType P.depth t=false∧∀ (a b c a' b' c':Int) (w:World),(Op.equalIn 10000 t (.agg #[.int .i64 a,.int .i64 b,.int .i64 c]) (.agg #[.int .i64 a',.int .i64 b',.int .i64 c'])).run P w = .ok (a==a'&&(b==b'&&c==c')) w
structure TIOk (P:Program) (t:Nat) (ti:TI):Prop where
  info:∃ i,P.info? t=some i∧i.size=ti.size∧i.bytes=ti.bytes∧i.zero=some ti.zero
  desc:∃ d,P.underlying t=some d∧TDOk ti.d d
  eq3:ti.eq3=true→Eq3 P t
def TOk (P:Program) (T:Nat→Option TI):Prop:=∀ t ti,T t=some ti→TIOk P t ti
theorem bindL_some {α:Type} {o:Option α} {K:α→Prop} (h:bindL o K):∃ v,o=some v∧K v:=by
  cases o with
  | none=>exact h.elim
  | some v=>exact ⟨v,rfl,h⟩
theorem bindV_some {o:Option Value} {K:Value→Prop} (h:bindV o K):∃ v,o=some v∧K v:=by
  cases o with
  | none=>exact h.elim
  | some v=>exact ⟨v,rfl,h⟩
theorem optM_some {α:Type} {o:Option α} {K:α→Prop} (h:optM o K):∃ v,o=some v∧K v:=by
  cases o with
  | none=>exact h.elim
  | some v=>exact ⟨v,rfl,h⟩
theorem cond_or {b:Bool} {A B:Prop} (h:cond b A B):(b=true∧A)∨(b=false∧B):=by
  cases b
  · exact .inr ⟨rfl,h⟩
  · exact .inl ⟨rfl,h⟩
theorem cond_true {b:Bool} {A:Prop} (h:cond b A False):b=true∧A:=by
  cases b
  · exact h.elim
  · exact ⟨rfl,h⟩
theorem kEq_eq {k k':IntKind} (h:kEq k k'=true):k=k':=by cases k<;>cases k'<;>first | rfl | (exact absurd h (by decide))
def EvOk (e:Env) (ρ:Operand→Value):Prop:=∀ x v,ev e x=some v→ρ x=v
theorem evs_ok {e:Env} {ρ:Operand→Value} (h:EvOk e ρ):∀ {l:List Operand} {vs:List Value},evs e l=some vs→l.map ρ=vs
  | [],vs,hv=>by simp only [evs] at hv;cases hv;rfl
  | x::l,vs,hv=>by
    simp only [evs] at hv
    cases hx:ev e x with
    | none=>simp [hx] at hv
    | some v=>
      cases hl:evs e l with
      | none=>simp [hx,hl] at hv
      | some ws=>
        simp [hx,hl] at hv
        subst hv
        simp [h x v hx,evs_ok h hl]
theorem evps_ok {e:Env} {ρ:Operand→Value} (h:EvOk e ρ):∀ {l:List (Nat×Operand)} {vs:List (Nat×Value)},evps e l=some vs→l.map (fun p=>(p.1,ρ p.2))=vs
  | [],vs,hv=>by simp only [evps] at hv;cases hv;rfl
  | (i,x)::l,vs,hv=>by
    simp only [evps] at hv
    cases hx:ev e x with
    | none=>simp [hx] at hv
    | some v=>
      cases hl:evps e l with
      | none=>simp [hx,hl] at hv
      | some ws=>
        simp [hx,hl] at hv
        subst hv
        simp [h x v hx,evps_ok h hl]
theorem evo_ok {e:Env} {ρ:Operand→Value} (h:EvOk e ρ) {o:Option Operand} {v:Option Value} (hv:evo e o=some v):o.map ρ=v:=by
  cases o with
  | none=>simp [evo] at hv;subst hv;rfl
  | some x=>
    simp only [evo] at hv
    cases hx:ev e x with
    | none=>simp [hx] at hv
    | some u=>simp [hx] at hv;subst hv;simp [h x u hx]
section
variable {P:Program} {T:Nat→Option TI}
theorem run_size {t:Nat} {ti:TI} (h:TIOk P t ti) (w:World):(sizeOf t).run P w = .ok ti.size w:=by
  obtain ⟨i,hi,hs,_,_⟩:=h.info
  simp [sizeOf,typeInfo,hi,hs]
theorem run_zero {t:Nat} {ti:TI} (h:TIOk P t ti) (w:World):(zeroValue t).run P w = .ok ti.zero w:=by
  obtain ⟨i,hi,_,_,hz⟩:=h.info
  simp [zeroValue,typeInfo,hi,hz]
theorem run_und {t:Nat} {d:TypeDesc} (h:P.underlying t=some d) (w:World):(underlying t).run P w = .ok d w:=by
  simp [underlying,h]
theorem agg_desc {d:TD} {d':TypeDesc} (h:TDOk d d'):d.isAgg=(match d' with | .struct _=>true | .array _ _=>true | _=>false):=by
  cases d<;>cases d'<;>first | rfl | exact (show False from h).elim
theorem run_agg {t:Nat} {ti:TI} (h:TIOk P t ti) (w:World):(isAgg t).run P w = .ok ti.d.isAgg w:=by
  obtain ⟨d,hd,hk⟩:=h.desc
  rw [agg_desc hk]
  simp only [isAgg,Sem.run_bind,run_und hd,Result.andThen_ok]
  cases d<;>simp
theorem ex_some {c:Ce} {K:Value→Prop} (h:c.ex K):∃ v,K v:=by
  cases c<;>simp only [Ce.ex] at h
  case slice=>obtain ⟨a,l,c,h⟩:=h;exact ⟨_,h⟩
  all_goals (obtain ⟨x,h⟩:=h;exact ⟨_,h⟩)
theorem ldC_some {c:Ce} {w:World} {a:Addr} {K:Value→Prop} (h:ldC c w a K):∃ v,w.cell? a=some v∧K v:=ex_some h
theorem run_ld {w:World} {a:Addr} {v:Value} (h:w.cell? a=some v):(load a).run P w = .ok v w:=by simp [h]
theorem ldCs_some:∀ {cs:List Ce} {a:Addr} {i:Nat} {w:World} {K:List Value→Prop},ldCs cs a i w K →
    ∀ acc:Array Value,∃ vs:List Value,(loadCellsFrom a i cs.length acc).run P w = .ok (acc++vs.toArray) w∧K vs
  | [],a,i,w,K,h,acc=>⟨[],by simp [loadCellsFrom],h⟩
  | c::cs,a,i,w,K,h,acc=>by
    obtain ⟨v,hv,h⟩:=ldC_some h
    obtain ⟨vs,hr,hk⟩:=ldCs_some h (acc.push v)
    refine ⟨v::vs,?_,hk⟩
    simp only [List.length_cons,loadCellsFrom,Sem.run_bind,run_ld hv,Result.andThen_ok,hr]
    simp
theorem ces_length (l:List Value):(ces l).length=l.length:=by induction l<;>simp_all [ces]
def TSize (T:Nat→Option TI):Prop:=∀ t ti,T t=some ti→ti.d.isAgg=true→(vcells ti.zero).length=ti.size
theorem run_loadD {t:Nat} {ti:TI} (h:TIOk P t ti) (hz:ti.d.isAgg=true→(vcells ti.zero).length=ti.size) {p:Value} {w:World} {K:Value→Prop} (hl:loadD ti p w K) :
    ∃ a v,p = .pointer (some a)∧(loadVar t a).run P w = .ok v w∧K v:=by
  cases p<;>simp only [loadD] at hl
  rename_i o
  obtain ⟨a,rfl,hl⟩:=optM_some hl
  rcases cond_or hl with ⟨hb,hl⟩ | ⟨hb,hl⟩
  · obtain ⟨vs,hr,hk⟩:=ldCs_some (P:=P) hl #[]
    refine ⟨a,_,rfl,?_,hk⟩
    rw [ces_length,hz hb] at hr
    simp [loadVar,run_agg h,hb,run_size h,loadCells,hr]
  · obtain ⟨v,hv,hk⟩:=ldC_some hl
    exact ⟨a,v,rfl,by simp [loadVar,run_agg h,hb,hv],hk⟩
theorem cellV_one {v:Value} (h:cellV v=true):v.oneCell'=true:=by cases v<;>simp_all [cellV,Value.oneCell']
theorem run_st {w:World} {a:Addr} {v:Value} (hv:cellV v=true) (h:okSt w a):(store a v).run P w = .ok () (w.setCell a v):=by
  obtain ⟨⟨u,hu⟩,hf⟩:=h
  rw [run_store P w a v .plain (cellV_one hv)]
  simp [hu,hf]
theorem run_stCs:∀ {vs:List Value} {a:Addr} {i:Nat} {w:World} {K:World→Prop},stCs vs a i w K →
    ∃ w',(storeCells a vs i).run P w = .ok () w'∧K w'
  | [],a,i,w,K,h=>⟨w,by simp [storeCells],h⟩
  | v::vs,a,i,w,K,h=>by
    obtain ⟨hv,hok,h⟩:=cond_true h
    obtain ⟨w',hr,hk⟩:=run_stCs h
    exact ⟨w',by simp [storeCells,run_st hv hok,hr],hk⟩
theorem vcells_eq (v:Value):vcells v=v.cells.toList:=by cases v<;>rfl
theorem vcells_arr (v:Value):(vcells v).toArray=v.cells:=by rw [vcells_eq]
theorem run_storeD {t:Nat} {ti:TI} (h:TIOk P t ti) {p v:Value} {w:World} {K:World→Prop} (hl:storeD ti p v w K) :
    ∃ a w',p = .pointer (some a)∧(storeVar t a v).run P w = .ok () w'∧K w':=by
  cases p<;>simp only [storeD] at hl
  rename_i o
  obtain ⟨a,rfl,hl⟩:=optM_some hl
  obtain ⟨hb,hl⟩:=cond_true hl
  obtain ⟨w',hr,hk⟩:=run_stCs (P:=P) hl
  have hs:v.cells.size=ti.size:=by
    have:=Nat.eq_of_beq_eq_true hb
    rw [vcells_eq] at this
    simpa using this
  refine ⟨a,w',rfl,?_,hk⟩
  rw [vcells_eq] at hr
  simp [storeVar,run_size h,hs,hr]
theorem run_row {w:World} {a:Addr} {l:List Value} (h:rowAt w a l):(loadCells a l.length).run P w = .ok l.toArray w:=by
  have key:∀ (n i:Nat) (acc:Array Value),i+n=l.length→(loadCellsFrom a i n acc).run P w = .ok (acc++(l.drop i).toArray) w:=by
    intro n
    induction n with
    | zero=>intro i acc hi;simp [loadCellsFrom,List.drop_of_length_le (show l.length≤i by omega)]
    | succ n ih=>
      intro i acc hi
      have hlt:i<l.length:=by omega
      have hc:=h i hlt
      rw [List.getElem?_eq_getElem hlt] at hc
      simp only [loadCellsFrom,Sem.run_bind,run_ld hc,Result.andThen_ok]
      rw [ih (i+1) _ (by omega)]
      congr 1
      rw [List.drop_eq_getElem_cons hlt]
      simp
  have:=key l.length 0 #[] (by omega)
  simpa [loadCells] using this
theorem run_setRow:∀ {vs:List Value} {a:Addr} {i:Nat} {w:World},stOk vs a i w→(storeCells a vs i).run P w = .ok () (setRow vs a i w)
  | [],a,i,w,_=>by simp [storeCells,setRow]
  | v::vs,a,i,w,h=>by
    obtain ⟨hv,hok,h⟩:=h
    simp [storeCells,run_st hv hok,run_setRow h,setRow]
end
end Go.Eng
/-
  Each operation of the definitional reading is sound (continued): the operations one by one. No condition but that the table of types is the program's.
-/
namespace Go.Eng
open Go
section
variable {P:Program} {T:Nat→Option TI}
theorem wrap_wrap (k:IntKind) (n:Int):k.wrap (k.wrap n)=k.wrap n:=by
  cases k<;>simp only [IntKind.wrap,IntKind.bits,IntKind.signed]<;>simp<;>omega
def OutV (P:Program) (K:Value→World→Prop) (s:Sem Value) (w:World):Prop:=∃ v w',s.run P w = .ok v w'∧K v w'
theorem OutV.mk {K:Value→World→Prop} {s:Sem Value} {w:World} {v:Value} {w':World} (h:s.run P w = .ok v w') (hk:K v w'):OutV P K s w:=⟨v,w',h,hk⟩
theorem out_of_v {K:Value→World→Prop} {s:Sem Value} {w:World} (h:OutV P K s w):Out P K ((do pure (Next.value (← s)):Sem Next).run P w):=by
  obtain ⟨v,w',hr,hk⟩:=h
  simp only [Sem.run_bind,hr,Result.andThen_ok,Sem.run_pure]
  exact hk
theorem fres_ok {op:BinOp} {a b:Nat} {o:Option Nat} {w:World} {K:Value→World→Prop} (hop:∀ w:World,(Op.floatArith op .f64 a b).run P w=(match o with
      | some r => .ok (.float .f64 r) w
      | none=>(do pure (Value.float .f64 (← choose (.nanBits .f64 a b))):Sem Value).run P w)) (ho:∀ r,o=some r→isNaN r=false) (h:FRes (o.getD qnan) w K):OutV P K (Op.floatArith op .f64 a b) w:=by
  cases o with
  | some r=>
    exact ⟨_,w,by rw [hop],h r 0 (nf_of_not (ho r rfl))⟩
  | none=>
    refine ⟨_,w.drewN 1,?_,h _ 1 (nf_of_nan (nanCut (w.tape w.drawn (.nanBits .f64 a b))))⟩
    rw [hop]
    simp only [Sem.run_bind,run_choose,Question.forced,Bool.false_eq_true,if_false,Result.andThen_ok,Sem.run_pure]
    rfl
theorem binFlt_ok {op:BinOp} {a b:Nat} {w:World} {K:Value→World→Prop} (t:Nat) (h:binFlt op a b w K):OutV P K (binOp op t (.float .f64 a) (.float .f64 b)) w:=by
  cases op<;>simp only [binFlt] at h<;>(try exact h.elim)
  case add=>
    have e:binOp .add t (.float .f64 a) (.float .f64 b)=Op.floatArith .add .f64 a b:=by simp [binOp]
    rw [e]
    exact fres_ok (o:=Ieee.double.add a b) (fun w=>by unfold Op.floatArith;cases h2:Ieee.double.add a b<;>simp [FloatKind.format,h2]) (fun r=>add_notNaN) h
  case sub=>
    have e:binOp .sub t (.float .f64 a) (.float .f64 b)=Op.floatArith .sub .f64 a b:=by simp [binOp]
    rw [e]
    exact fres_ok (o:=Ieee.double.sub a b) (fun w=>by unfold Op.floatArith;cases h2:Ieee.double.sub a b<;>simp [FloatKind.format,h2]) (fun r=>sub_notNaN) h
  case mul=>
    have e:binOp .mul t (.float .f64 a) (.float .f64 b)=Op.floatArith .mul .f64 a b:=by simp [binOp]
    rw [e]
    exact fres_ok (o:=Ieee.double.mul a b) (fun w=>by unfold Op.floatArith;cases h2:Ieee.double.mul a b<;>simp [FloatKind.format,h2]) (fun r=>mul_notNaN) h
  case quo=>
    have e:binOp .quo t (.float .f64 a) (.float .f64 b)=Op.floatArith .quo .f64 a b:=by simp [binOp]
    rw [e]
    exact fres_ok (o:=Ieee.double.div a b) (fun w=>by unfold Op.floatArith;cases h2:Ieee.double.div a b<;>simp [FloatKind.format,h2]) (fun r=>div_notNaN) h
  all_goals exact ⟨_,w,by simp [binOp,Op.floatCmp,FloatKind.format,bne];rfl,h⟩
theorem binInt_ok {op:BinOp} {k:IntKind} {a b:Int} {w:World} {K:Value→World→Prop} (t:Nat) (hs:op ≠ .shl∧op ≠ .shr) (h:binInt op k a b fun v=>K v w) :
    OutV P K (binOp op t (.int k a) (.int k b)) w:=by
  cases op<;>simp only [binInt] at h<;>(try exact h.elim)<;>(try (exact absurd rfl hs.1))<;>(try (exact absurd rfl hs.2))
  case quo=>obtain ⟨hb,h⟩:=h;exact ⟨_,w,by simp [binOp,Op.intDiv,hb],h⟩
  case rem=>obtain ⟨hb,h⟩:=h;exact ⟨_,w,by simp [binOp,Op.intDiv,hb],h⟩
  all_goals exact ⟨_,w,by simp only [binOp,ne_eq,not_true_eq_false,if_false,Op.intArith,Op.intBits,Op.intCmp,Sem.run_pure],h⟩
section
variable {t:Nat} {d:TypeDesc} (hd:P.underlying t=some d)
include hd
theorem eq_bool (e:d = .bool) (n:Nat) (a b:Bool) (w:World):(Op.equalIn (n+1) t (.bool a) (.bool b)).run P w = .ok (a==b) w:=by
  subst e;simp [Op.equalIn,run_und hd]
theorem eq_ptr {x:Nat} (e:d = .pointer x) (n:Nat) (p:Option Addr) (w:World):(Op.equalIn (n+1) t (.pointer p) (.pointer none)).run P w = .ok p.isNone w:=by
  subst e;cases p<;>simp [Op.equalIn,run_und hd]
theorem eq_sl {x:Nat} (e:d = .slice x) (n:Nat) (p:Option Addr) (l c l' c':Nat) (w:World):(Op.equalIn (n+1) t (.slice p l c) (.slice none l' c')).run P w = .ok p.isNone w:=by
  subst e;cases p<;>simp [Op.equalIn,run_und hd]
end
theorem equal_in (t:Nat) (x y:Value):Op.equal t x y=Op.equalIn (9999+1) t x y:=rfl
theorem binD_ok {t:Nat} {ti:TI} (ht:TIOk P t ti) {op:BinOp} {x y:Value} {w:World} {K:Value→World→Prop} (h:binD ti op x y w K):OutV P K (binOp op t x y) w:=by
  obtain ⟨d,hd,hk⟩:=ht.desc
  unfold binD at h
  split at h
  · -- ints
    rename_i k a k' b
    split at h
    · obtain ⟨h0,h⟩:=h
      exact ⟨_,w,by simp only [binOp,Op.shift];rw [if_neg (by omega)];rfl,h⟩
    · obtain ⟨h0,h⟩:=h
      exact ⟨_,w,by simp only [binOp,Op.shift];rw [if_neg (by omega)];rfl,h⟩
    · rename_i op' h1 h2
      obtain ⟨hk',h'⟩:=Eng.cond_true h
      obtain rfl:=kEq_eq hk'
      exact binInt_ok t ⟨fun e=>h1 e,fun e=>h2 e⟩ h'
  · split at h
    · exact binFlt_ok t h
    · exact h.elim
  · -- bools
    split at h
    · rename_i hb
      rw [hb] at hk
      cases d<;>(try exact hk.elim)
      split at h
      · exact ⟨_,w,by simp only [binOp,equal_in,Sem.run_bind,eq_bool hd rfl,Result.andThen_ok,Sem.run_pure],h⟩
      · exact ⟨_,w,by simp only [binOp,equal_in,Sem.run_bind,eq_bool hd rfl,Result.andThen_ok,Sem.run_pure],h⟩
      · exact h.elim
    · exact h.elim
  · -- pointers
    rename_i p
    split at h
    · rename_i hb
      rw [hb] at hk
      cases d<;>(try exact hk.elim)
      split at h
      · exact ⟨.bool p.isNone,w,by simp only [binOp,equal_in,Sem.run_bind,eq_ptr hd rfl,Result.andThen_ok,Sem.run_pure],h⟩
      · exact ⟨.bool (!p.isNone),w,by simp only [binOp,equal_in,Sem.run_bind,eq_ptr hd rfl,Result.andThen_ok,Sem.run_pure],h⟩
      · exact h.elim
    · exact h.elim
  · -- slices
    rename_i p _ _ _ _
    split at h
    · rename_i hb
      rw [hb] at hk
      cases d<;>(try exact hk.elim)
      split at h
      · exact ⟨.bool p.isNone,w,by simp only [binOp,equal_in,Sem.run_bind,eq_sl hd rfl,Result.andThen_ok,Sem.run_pure],h⟩
      · exact ⟨.bool (!p.isNone),w,by simp only [binOp,equal_in,Sem.run_bind,eq_sl hd rfl,Result.andThen_ok,Sem.run_pure],h⟩
      · exact h.elim
    · exact h.elim
  · -- strings
    split at h
    · exact ⟨_,w,by simp [binOp,Op.stringOp],h⟩
    · exact ⟨_,w,by simp [binOp,Op.stringOp],h⟩
    · exact h.elim
  · -- structs of three whole numbers
    rename_i xs ys
    obtain ⟨he,h2⟩:=Eng.cond_true h
    replace h:=h2
    clear h2
    have e3:=(ht.eq3 he).2
    unfold eq3D at h
    split at h
    · rename_i a b c a' b' c' hx hy
      have ex:xs = #[.int .i64 a,.int .i64 b,.int .i64 c]:=by rw [← Array.toArray_toList (xs:=xs),hx]
      have ey:ys = #[.int .i64 a',.int .i64 b',.int .i64 c']:=by rw [← Array.toArray_toList (xs:=ys),hy]
      subst ex;subst ey
      split at h
      · exact ⟨_,w,by simp only [run_eql_struct,e3,Result.andThen_ok],h⟩
      · exact ⟨_,w,by simp only [run_neq_struct,e3,Result.andThen_ok],h⟩
      · exact h.elim
    · exact h.elim
  · exact h.elim
theorem eqGuard_ok {t:Nat} {ti:TI} (ht:TIOk P t ti) {op:BinOp} {x y:Value} {w:World} {K:Value→World→Prop} (h:binD ti op x y w K) (ox oy:Operand) (w':World):(eqGuard op t ox oy x y).run P w' = .ok () w':=by
  by_cases hagg:∃ xs ys,x = .agg xs∧y = .agg ys
  · obtain ⟨xs,ys,rfl,rfl⟩:=hagg
    obtain ⟨he,_⟩:=Eng.cond_true (show cond ti.eq3 _ False from h)
    exact run_eqGuard_agg w' op t ox oy xs ys (ht.eq3 he).1
  have hc:(match x,y with | .nilIface,.nilIface=>False | .agg _,.agg _=>False | _,_=>True):=by
    cases x<;>cases y<;>(first | trivial | exact h | exact hagg ⟨_,_,rfl,rfl⟩)
  cases op<;>(try rfl)
  all_goals (cases x<;>cases y<;>(first | rfl | exact hc.elim))
theorem unD_ok {op:UnOp} {x:Value} {w:World} {K:Value→World→Prop} (h:unD op x fun v=>K v w):OutV P K (Op.unary op x) w:=by
  unfold unD at h
  split at h
  · exact ⟨_,w,by simp only [Op.unary,Op.intArith,Sem.run_pure],h⟩
  · rename_i k n
    refine ⟨.int k (k.wrap (BitVec.ofInt k.bits (cond k.signed (-1) k.max) ^^^ BitVec.ofInt k.bits n).toNat),w,?_,h⟩
    simp only [Op.unary,Op.intBits,Sem.run_pure]
    cases k.signed<;>rfl
  · exact ⟨_,w,rfl,h⟩
  · exact ⟨_,w,rfl,h⟩
  · exact h.elim
theorem convD_ok {s d:Nat} {ts td:TI} (hs:TIOk P s ts) (hd:TIOk P d td) {x:Value} {w:World} {K:Value→World→Prop} (h:convD ts.d td.d x w K):OutV P K (convert s d x) w:=by
  obtain ⟨d1,hd1,hk1⟩:=hs.desc
  obtain ⟨d2,hd2,hk2⟩:=hd.desc
  unfold convD at h
  split at h
  · rename_i k' k k1 n e1 e2
    rw [e1] at hk1;rw [e2] at hk2
    cases d1<;>(try exact hk1.elim)
    cases d2<;>(try exact hk2.elim)
    cases hk2
    exact ⟨_,w,by simp [convert,run_und hd1,run_und hd2,Conv.intToInt],h⟩
  · rename_i k' k1 n e1 e2
    rw [e1] at hk1;rw [e2] at hk2
    cases d1<;>(try exact hk1.elim)
    cases d2<;>(try exact hk2.elim)
    cases hk2
    exact ⟨_,w,by simp [convert,run_und hd1,run_und hd2,Conv.intToFloat],h⟩
  · rename_i k b e1 e2
    rw [e1] at hk1;rw [e2] at hk2
    cases d1<;>(try exact hk1.elim)
    cases d2<;>(try exact hk2.elim)
    cases hk2
    obtain ⟨h1,h2⟩:=h
    cases hf:f2i b k with
    | some n=>
      refine ⟨_,w,?_,h1 n hf⟩
      unfold f2i at hf
      simp only [convert,Sem.run_bind,run_und hd1,run_und hd2,Result.andThen_ok,Conv.floatToInt,FloatKind.decode,FloatKind.format]
      split at hf
      · rename_i m hm
        split at hf
        · rename_i hb;cases hf;simp [hm,hb]
        · cases hf
      · cases hf
    | none=>
      refine ⟨.int k (k.wrap (Question.cut (.floatToInt .f64 b k) (w.tape w.drawn (.floatToInt .f64 b k)))),w.drewN 1,?_,h2 hf _ 1 ?_⟩
      · unfold f2i at hf
        simp only [convert,Sem.run_bind,run_und hd1,run_und hd2,Result.andThen_ok,Conv.floatToInt,FloatKind.decode,FloatKind.format]
        split at hf
        · rename_i m hm
          split at hf
          · cases hf
          · rename_i hb
            simp only [hm]
            rw [if_neg hb]
            simp [Question.forced];rfl
        · rename_i hm
          simp [hm,Question.forced];rfl
      · exact wrap_wrap k _
  · rename_i b e1 e2
    rw [e1] at hk1;rw [e2] at hk2
    cases d1<;>(try exact hk1.elim)
    cases d2<;>(try exact hk2.elim)
    cases hk2
    exact ⟨_,w,by simp [convert,run_und hd1,run_und hd2,Conv.floatToFloat],h⟩
  · exact h.elim
end
end Go.Eng
/-
  Each operation of the definitional reading is sound (continued): all operations in one theorem. No condition but that the table of types is the program's.
-/
namespace Go.Eng
open Go
section
variable {P:Program} {T:Nat→Option TI}
theorem nth_eq {α:Type}:∀ (l:List α) (i:Nat),nth l i=l[i]?
  | [],i=>by simp [nth]
  | a::l,0=>by simp [nth]
  | a::l,i+1=>by simp [nth,nth_eq l i]
theorem run_bound {x:Int} {y:Nat} {c:BoundsCode} (h:0≤x∧x≤y) (w:World):(Instr.sliceBound (.int .i64 x) y c).run P w = .ok x.toNat w:=by
  simp [Instr.sliceBound,asIntOf,h.1,h.2]
theorem sliceD_ok {size:Nat} {a:Option Addr} {len cap:Nat} {lo hi mx:Option Value} {K:Value→Prop} (h:sliceD size a len cap lo hi mx K) (isS:Bool) :
    ∃ l hh m,(∀ w,(Instr.sliceBounds isS len cap lo hi mx).run P w = .ok (l,hh,m) w)∧K (.slice (slBase a l m size) (hh-l) (m-l)):=by
  unfold sliceD at h
  split at h
  · exact ⟨0,len,cap,fun w=>by simp [Instr.sliceBounds],by simpa using h⟩
  · obtain ⟨h1,h2,h⟩:=h
    exact ⟨_,len,cap,fun w=>by simp [Instr.sliceBounds,run_bound ⟨h1,h2⟩],h⟩
  · rename_i y
    obtain ⟨h1,h2,h⟩:=h
    exact ⟨0,y.toNat,cap,fun w=>by simp [Instr.sliceBounds,run_bound ⟨h1,h2⟩],by simpa using h⟩
  · obtain ⟨h1,h2,h3,h4,h⟩:=h
    exact ⟨_,_,cap,fun w=>by
      simp only [Instr.sliceBounds,Sem.run_bind,Sem.run_pure,Result.andThen_ok,run_bound ⟨h1,h2⟩]
      rw [run_bound ⟨h3,by omega⟩];rfl,h⟩
  · obtain ⟨h1,h2,h3,h4,h5,h6,h⟩:=h
    exact ⟨_,_,_,fun w=>by
      simp only [Instr.sliceBounds,Sem.run_bind,Sem.run_pure,Result.andThen_ok,run_bound ⟨h1,h2⟩]
      rw [run_bound ⟨h3,by omega⟩]
      simp only [Result.andThen_ok]
      rw [run_bound ⟨h5,by omega⟩];rfl,h⟩
  · exact h.elim
theorem putAt_eq:∀ (vs:List Value) (off j:Nat) (cs:Array Value),(vs.zipIdx j).foldl (fun cs (p:Value×Nat)=>cs.setIfInBounds (off+p.2) p.1) cs=(putAt (off+j) vs cs.toList).toArray
  | [],off,j,cs=>by simp [putAt]
  | v::vs,off,j,cs=>by
    simp only [List.zipIdx_cons,List.foldl_cons,putAt]
    rw [putAt_eq vs off (j+1)]
    simp [Nat.add_assoc]
theorem fill_ok {pl:Nat→Option (Nat×Nat)}:∀ {ps:List (Nat×Value)} {cells out:List Value},fillL pl cells ps=some out→Instr.fill pl cells.toArray ps=some out.toArray
  | [],cells,out,h=>by simp only [fillL] at h;cases h;rfl
  | (i,v)::ps,cells,out,h=>by
    simp only [fillL] at h
    cases hp:pl i with
    | none=>simp [hp] at h
    | some p=>
      obtain ⟨off,size⟩:=p
      simp only [hp] at h
      cases hb:Nat.beq (vcells v).length size with
      | false=>simp [hb] at h
      | true=>
        cases hb2:Nat.ble (off+size) cells.length with
        | false=>simp [hb,hb2] at h
        | true=>
          simp only [hb,hb2] at h
          have e1:=Nat.eq_of_beq_eq_true hb
          have e2:=Nat.le_of_ble_eq_true hb2
          have e3:v.cells.size=size:=by rw [vcells_eq] at e1;simpa using e1
          simp only [Instr.fill,hp]
          rw [if_neg (by simp [e3];omega)]
          have:=putAt_eq (vcells v) off 0 cells.toArray
          have hz:Array.foldl (fun cs (x:Value×Nat)=>cs.setIfInBounds (off+x.2) x.1) cells.toArray v.cells.zipIdx=(putAt off (vcells v) cells).toArray:=by
            rw [vcells_eq] at this ⊢
            rw [← Array.foldl_toList,Array.toList_zipIdx]
            simpa using this
          rw [hz]
          exact fill_ok h
theorem run_pls (hT:TOk P T):∀ {l:List Field} {pl:List (Nat×Nat)},plsT T (l.map fun f=>(f.type,f.offset))=some pl →
    ∀ w,(l.mapM fun f=>(do pure (f.offset,← sizeOf f.type):Sem (Nat×Nat))).run P w = .ok pl w
  | [],pl,h,w=>by simp only [List.map_nil,plsT] at h;cases h;rfl
  | f::l,pl,h,w=>by
    simp only [List.map_cons,plsT] at h
    cases hs:sizeT T f.type with
    | none=>simp [hs] at h
    | some s=>
      cases hr:plsT T (l.map fun f=>(f.type,f.offset)) with
      | none=>simp [hs,hr] at h
      | some r=>
        simp [hs,hr] at h
        subst h
        have ih:=run_pls hT hr
        simp only [sizeT] at hs
        cases hte:T f.type with
        | none=>simp [hte] at hs
        | some te=>
          simp [hte] at hs
          subst hs
          simp only [List.mapM_cons,Sem.run_bind,run_size (hT _ _ hte),Result.andThen_ok,Sem.run_pure,ih]
theorem run_build {t:Nat} {ti:TI} (ht:TIOk P t ti) (hT:TOk P T) {ps:Array (Nat×Operand)} {e:Env} {ρ:Operand→Value} (he:EvOk e ρ) {w:World} {K:Value→World→Prop}
    (h:match ti.d with
    | .struct fs=>bindL (plsT T fs) fun pl=>bindL (evps e ps.toList) fun vs=>bindL (fillL (nth pl) (vcells ti.zero) vs) fun cs=>K (.agg cs.toArray) w
    | .array _ el=>bindL (sizeT T el) fun s=>bindL (evps e ps.toList) fun vs=>bindL (fillL (fun i=>some (i*s,s)) (vcells ti.zero) vs) fun cs=>K (.agg cs.toArray) w
    | _=>False):OutV P K (Instr.build t (ps.map fun (i,x)=>(i,ρ x))) w:=by
  obtain ⟨d,hd,hk⟩:=ht.desc
  split at h
  · rename_i fs hfs
    rw [hfs] at hk
    cases d<;>(try exact hk.elim)
    rename_i fields
    obtain ⟨pl,hpls,h⟩:=bindL_some h
    obtain ⟨vs,hvs,h⟩:=bindL_some h
    obtain ⟨cs,hcs,h⟩:=bindL_some h
    refine ⟨_,w,?_,h⟩
    have hparts:(ps.map fun (i,x)=>(i,ρ x)).toList=vs:=by
      have:=evps_ok he hvs
      simpa using this
    have hk':fs=fields.toList.map fun f=>(f.type,f.offset):=hk
    subst hk'
    have hpl:=run_pls hT hpls w
    have:=fill_ok hcs
    rw [vcells_arr] at this
    have hfn:(fun i=>pl.toArray[i]?)=nth pl:=by funext i;simp [nth_eq]
    simp only [Instr.build,Sem.run_bind,run_zero ht,Result.andThen_ok,run_und hd,Array.mapM_eq_mapM_toList,Sem.run_map,hpl,hparts,hfn,this,Sem.run_pure]
  · rename_i n el hn
    rw [hn] at hk
    cases d<;>(try exact hk.elim)
    obtain ⟨hk1,hk2⟩:=hk
    subst hk1;subst hk2
    obtain ⟨s,hs,h⟩:=bindL_some h
    obtain ⟨vs,hvs,h⟩:=bindL_some h
    obtain ⟨cs,hcs,h⟩:=bindL_some h
    refine ⟨_,w,?_,h⟩
    have hparts:(ps.map fun (i,x)=>(i,ρ x)).toList=vs:=by
      have:=evps_ok he hvs
      simpa using this
    simp only [sizeT] at hs
    cases hte:T el with
    | none=>simp [hte] at hs
    | some te=>
      simp [hte] at hs
      subst hs
      have:=fill_ok hcs
      rw [vcells_arr] at this
      simp only [Instr.build,Sem.run_bind,run_zero ht,Result.andThen_ok,run_und hd,run_size (hT _ _ hte),hparts,this,Sem.run_pure]
  · exact h.elim
end
end Go.Eng
