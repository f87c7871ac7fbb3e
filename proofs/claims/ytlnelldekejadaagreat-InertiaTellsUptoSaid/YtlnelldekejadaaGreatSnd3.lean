/-
  Each operation of the definitional reading is sound: if 'opD' holds, the model's own operation comes to a value of which what was asked holds. No condition but that the table of types is the program's.
-/
import Derived.Test.YtlnelldekejadaaGreatEng
import Derived.Laws.Sem
import Derived.Laws.World
import Derived.ChangeKeysEq
import Derived.Laws.Cells
import Derived.Laws.StructEq
import Derived.Laws.FloatArith
import Derived.Laws.Append
set_option linter.all false
open Nat renaming eq_of_beq_eq_true→AA
namespace Go.Eng
open Go
def Hb1:TD→TypeDesc→Prop
 | .bool,.bool=>True
 | .int k,.int k'=>k=k'
 | .float k,.float k'=>k=k'
 | .string,.string=>True
 | .ptr e,.pointer e'=>e=e'
 | .slice e,.slice e'=>e=e'
 | .array n e,.array n' e'=>n=n'∧e=e'
 | .struct fs,.struct fields=>fs=fields.toList.map fun f=>(f.type,f.offset)
 | .tuple ts,.tuple es=>ts=es.toList
 | .func,.func _ _ _=>True
 | .other,d=>match d with | .struct _=>False | .array _ _=>False | _=>True
 | _,_=>False
def Eq3 (P:Program) (t:Nat):Prop:=P.eqGuardType P.depth t=false∧∀ (a b c a' b' c':Int) (w:World),(Op.equalIn 10000 t (.agg #[.int .i64 a,.int .i64 b,.int .i64 c]) (.agg #[.int .i64 a',.int .i64 b',.int .i64 c'])).run P w = .ok (a==a'&&(b==b'&&c==c')) w
structure TIOk (P:Program) (t:Nat) (ti:TI):Prop where
 info:∃ i,P.info? t=some i∧i.size=ti.size∧i.bytes=ti.bytes∧i.zero=some ti.zero
 desc:∃ d,P.underlying t=some d∧Hb1 ti.d d
 eq3:ti.eq3=true→Eq3 P t
def TOk (P:Program) (T:Nat→Option TI):Prop:=∀ t ti,T t=some ti→TIOk P t ti
theorem Aa3 {α:Type} {o:Option α} {K:α→Prop} (h:Ac6 o K):∃ v,o=some v∧K v:=by
 cases o with
 | none=>exact h.elim
 | some v=>exact ⟨v,rfl,h⟩
theorem Ab3 {o:Option Value} {K:Value→Prop} (h:Ar1 o K):∃ v,o=some v∧K v:=by
 cases o with
 | none=>exact h.elim
 | some v=>exact ⟨v,rfl,h⟩
theorem Am6 {α:Type} {o:Option α} {K:α→Prop} (h:Ab6 o K):∃ v,o=some v∧K v:=by
 cases o with
 | none=>exact h.elim
 | some v=>exact ⟨v,rfl,h⟩
theorem As2 {b:Bool} {A B:Prop} (h:cond b A B):(b=true∧A)∨(b=false∧B):=by
 cases b
 · exact .inr ⟨rfl,h⟩
 · exact .inl ⟨rfl,h⟩
theorem cond_true {b:Bool} {A:Prop} (h:cond b A False):b=true∧A:=by
 cases b
 · exact h.elim
 · exact ⟨rfl,h⟩
theorem Fn6 {k k':IntKind} (h:kEq k k'=true):k=k':=by cases k<;>cases k'<;>first | rfl | (exact absurd h (by decide))
def Gg4 (e:Env) (ρ:Operand→Value):Prop:=∀ x v,ev e x=some v→ρ x=v
theorem Er4 {e:Env} {ρ:Operand→Value} (h:Gg4 e ρ):∀ {l:List Operand} {vs:List Value},evs e l=some vs→l.map ρ=vs
 | [],vs,hv=>by simp only [evs] at hv;cases hv;rfl
 | x::l,vs,hv=>by
   simp only [evs] at hv
   cases hx:ev e x with
   | none=>simp [hx] at hv
   | some v=>
     cases hl:evs e l with
     | none=>simp [hx,hl] at hv
     | some ws=>
       simp [hx,hl] at hv
       subst hv
       simp [h x v hx,Er4 h hl]
theorem Do6 {e:Env} {ρ:Operand→Value} (h:Gg4 e ρ):∀ {l:List (Nat×Operand)} {vs:List (Nat×Value)},Fd7 e l=some vs→l.map (fun p=>(p.1,ρ p.2))=vs
 | [],vs,hv=>by simp only [Fd7] at hv;cases hv;rfl
 | (i,x)::l,vs,hv=>by
   simp only [Fd7] at hv
   cases hx:ev e x with
   | none=>simp [hx] at hv
   | some v=>
     cases hl:Fd7 e l with
     | none=>simp [hx,hl] at hv
     | some ws=>
       simp [hx,hl] at hv
       subst hv
       simp [h x v hx,Do6 h hl]
theorem Fb9 {e:Env} {ρ:Operand→Value} (h:Gg4 e ρ) {o:Option Operand} {v:Option Value} (hv:evo e o=some v):o.map ρ=v:=by
 cases o with
 | none=>simp [evo] at hv;subst hv;rfl
 | some x=>
   simp only [evo] at hv
   cases hx:ev e x with
   | none=>simp [hx] at hv
   | some u=>simp [hx] at hv;subst hv;simp [h x u hx]
section
variable {P:Program} {T:Nat→Option TI}
theorem Aj2 {t:Nat} {ti:TI} (h:TIOk P t ti) (w:World):(sizeOf t).run P w = .ok ti.size w:=by
 obtain ⟨i,hi,hs,_,_⟩:=h.info
 simp [sizeOf,typeInfo,hi,hs]
theorem Bq8 {t:Nat} {ti:TI} (h:TIOk P t ti) (w:World):(zeroValue t).run P w = .ok ti.zero w:=by
 obtain ⟨i,hi,_,_,hz⟩:=h.info
 simp [zeroValue,typeInfo,hi,hz]
theorem Ad3 {t:Nat} {d:TypeDesc} (h:P.underlying t=some d) (w:World):(underlying t).run P w = .ok d w:=by
 simp [underlying,h]
theorem Fq3 {d:TD} {d':TypeDesc} (h:Hb1 d d'):d.isAgg=(match d' with | .struct _=>true | .array _ _=>true | _=>false):=by
 cases d<;>cases d'<;>first | rfl | exact (show False from h).elim
theorem Cp7 {t:Nat} {ti:TI} (h:TIOk P t ti) (w:World):(isAgg t).run P w = .ok ti.d.isAgg w:=by
 obtain ⟨d,hd,hk⟩:=h.desc
 rw [Fq3 hk]
 simp only [isAgg,Sem.run_bind,Ad3 hd,Result.andThen_ok]
 cases d<;>simp
theorem Ee5 {c:Ce} {K:Value→Prop} (h:c.ex K):∃ v,K v:=by
 cases c<;>simp only [Ce.ex] at h
 case slice=>obtain ⟨a,l,c,h⟩:=h;exact ⟨_,h⟩
 all_goals (obtain ⟨x,h⟩:=h;exact ⟨_,h⟩)
theorem Em0 {c:Ce} {w:World} {a:Addr} {K:Value→Prop} (h:ldC c w a K):∃ v,w.cell? a=some v∧K v:=Ee5 h
theorem Gb2 {w:World} {a:Addr} {v:Value} (h:w.cell? a=some v):(load a).run P w = .ok v w:=by simp [h]
theorem Dx6:∀ {cs:List Ce} {a:Addr} {i:Nat} {w:World} {K:List Value→Prop},Fo3 cs a i w K →
 ∀ acc:Array Value,∃ vs:List Value,(loadCellsFrom a i cs.length acc).run P w = .ok (acc++vs.toArray) w∧K vs
 | [],a,i,w,K,h,acc=>⟨[],by simp [loadCellsFrom],h⟩
 | c::cs,a,i,w,K,h,acc=>by
   obtain ⟨v,hv,h⟩:=Em0 h
   obtain ⟨vs,hr,hk⟩:=Dx6 h (acc.push v)
   refine ⟨v::vs,?_,hk⟩
   simp only [List.length_cons,loadCellsFrom,Sem.run_bind,Gb2 hv,Result.andThen_ok,hr]
   simp
theorem Ew6 (l:List Value):(ces l).length=l.length:=by induction l<;>simp_all [ces]
def Cf0 (T:Nat→Option TI):Prop:=∀ t ti,T t=some ti→ti.d.isAgg=true→(Ai5 ti.zero).length=ti.size
theorem Eb4 {t:Nat} {ti:TI} (h:TIOk P t ti) (hz:ti.d.isAgg=true→(Ai5 ti.zero).length=ti.size) {p:Value} {w:World} {K:Value→Prop} (hl:Fn1 ti p w K) :
 ∃ a v,p = .pointer (some a)∧(loadVar t a).run P w = .ok v w∧K v:=by
 cases p<;>simp only [Fn1] at hl
 rename_i o
 obtain ⟨a,rfl,hl⟩:=Am6 hl
 rcases As2 hl with ⟨hb,hl⟩ | ⟨hb,hl⟩
 · obtain ⟨vs,hr,hk⟩:=Dx6 (P:=P) hl #[]
   refine ⟨a,_,rfl,?_,hk⟩
   rw [Ew6,hz hb] at hr
   simp [loadVar,Cp7 h,hb,Aj2 h,loadCells,hr]
 · obtain ⟨v,hv,hk⟩:=Em0 hl
   exact ⟨a,v,rfl,by simp [loadVar,Cp7 h,hb,hv],hk⟩
theorem Fm7 {v:Value} (h:Cu7 v=true):v.oneCell'=true:=by cases v<;>simp_all [Cu7,Value.oneCell']
theorem Fz6 {w:World} {a:Addr} {v:Value} (hv:Cu7 v=true) (h:Gv2 w a):(store a v).run P w = .ok () (w.setCell a v):=by
 obtain ⟨⟨u,hu⟩,hf⟩:=h
 rw [run_store P w a v .plain (Fm7 hv)]
 simp [hu,hf]
theorem Eo9:∀ {vs:List Value} {a:Addr} {i:Nat} {w:World} {K:World→Prop},Gx8 vs a i w K →
 ∃ w',(storeCells a vs i).run P w = .ok () w'∧K w'
 | [],a,i,w,K,h=>⟨w,by simp [storeCells],h⟩
 | v::vs,a,i,w,K,h=>by
   obtain ⟨hv,hok,h⟩:=cond_true h
   obtain ⟨w',hr,hk⟩:=Eo9 h
   exact ⟨w',by simp [storeCells,Fz6 hv hok,hr],hk⟩
theorem Az2 (v:Value):Ai5 v=v.cells.toList:=by cases v<;>rfl
theorem Bh7 (v:Value):(Ai5 v).toArray=v.cells:=by rw [Az2]
theorem Eu0 {t:Nat} {ti:TI} (h:TIOk P t ti) {p v:Value} {w:World} {K:World→Prop} (hl:Ey5 ti p v w K) :
 ∃ a w',p = .pointer (some a)∧(storeVar t a v).run P w = .ok () w'∧K w':=by
 cases p<;>simp only [Ey5] at hl
 rename_i o
 obtain ⟨a,rfl,hl⟩:=Am6 hl
 obtain ⟨hb,hl⟩:=cond_true hl
 obtain ⟨w',hr,hk⟩:=Eo9 (P:=P) hl
 have hs:v.cells.size=ti.size:=by
  have:=AA hb
  rw [Az2] at this
  simpa using this
 refine ⟨a,w',rfl,?_,hk⟩
 rw [Az2] at hr
 simp [storeVar,Aj2 h,hs,hr]
theorem Gg8 {w:World} {a:Addr} {l:List Value} (h:Gf6 w a l):(loadCells a l.length).run P w = .ok l.toArray w:=by
 have key:∀ (n i:Nat) (acc:Array Value),i+n=l.length→(loadCellsFrom a i n acc).run P w = .ok (acc++(l.drop i).toArray) w:=by
  intro n
  induction n with
  | zero=>intro i acc hi;simp [loadCellsFrom,List.drop_of_length_le (show l.length≤i by omega)]
  | succ n ih=>
    intro i acc hi
    have hlt:i<l.length:=by omega
    have hc:=h i hlt
    rw [List.getElem?_eq_getElem hlt] at hc
    simp only [loadCellsFrom,Sem.run_bind,Gb2 hc,Result.andThen_ok]
    rw [ih (i+1) _ (by omega)]
    congr 1
    rw [List.drop_eq_getElem_cons hlt]
    simp
 have:=key l.length 0 #[] (by omega)
 simpa [loadCells] using this
theorem Cf3:∀ {vs:List Value} {a:Addr} {i:Nat} {w:World},Fx2 vs a i w→(storeCells a vs i).run P w = .ok () (Az9 vs a i w)
 | [],a,i,w,_=>by simp [storeCells,Az9]
 | v::vs,a,i,w,h=>by
   obtain ⟨hv,hok,h⟩:=h
   simp [storeCells,Fz6 hv hok,Cf3 h,Az9]
end
end Go.Eng
/-
  Each operation of the definitional reading is sound (continued): the operations one by one. No condition but that the table of types is the program's.
-/
namespace Go.Eng
open Go
section
variable {P:Program} {T:Nat→Option TI}
theorem Fh1 (k:IntKind) (n:Int):k.wrap (k.wrap n)=k.wrap n:=by
 cases k<;>simp only [IntKind.wrap,IntKind.bits,IntKind.signed]<;>simp<;>omega
def Dh9 (P:Program) (K:Value→World→Prop) (s:Sem Value) (w:World):Prop:=∃ v w',s.run P w = .ok v w'∧K v w'
theorem Dh9.mk {K:Value→World→Prop} {s:Sem Value} {w:World} {v:Value} {w':World} (h:s.run P w = .ok v w') (hk:K v w'):Dh9 P K s w:=⟨v,w',h,hk⟩
theorem Af1 {K:Value→World→Prop} {s:Sem Value} {w:World} (h:Dh9 P K s w):Out P K ((do pure (Next.value (← s)):Sem Next).run P w):=by
 obtain ⟨v,w',hr,hk⟩:=h
 simp only [Sem.run_bind,hr,Result.andThen_ok,Sem.run_pure]
 exact hk
theorem Do4 {op:BinOp} {a b:Nat} {o:Option Nat} {w:World} {K:Value→World→Prop} (hop:∀ w:World,(Op.floatArith op .f64 a b).run P w=(match o with
 | some r => .ok (.float .f64 r) w
 | none=>(do pure (Value.float .f64 (← choose (.nanBits .f64 a b))):Sem Value).run P w)) (ho:∀ r,o=some r→isNaN r=false) (h:Gm5 (o.getD Gd8) w K):Dh9 P K (Op.floatArith op .f64 a b) w:=by
 cases o with
 | some r=>
   exact ⟨_,w,by rw [hop],h r 0 (Fj5 (ho r rfl))⟩
 | none=>
   refine ⟨_,w.drewN 1,?_,h _ 1 (Fc2 (Fg7 (w.tape w.drawn (.nanBits .f64 a b))))⟩
   rw [hop]
   simp only [Sem.run_bind,run_choose,Question.forced,Bool.false_eq_true,if_false,Result.andThen_ok,Sem.run_pure]
   rfl
theorem Fd2 {op:BinOp} {a b:Nat} {w:World} {K:Value→World→Prop} (t:Nat) (h:Dp6 op a b w K):Dh9 P K (binOp op t (.float .f64 a) (.float .f64 b)) w:=by
 cases op<;>simp only [Dp6] at h<;>(try exact h.elim)
 case add=>
  have e:binOp .add t (.float .f64 a) (.float .f64 b)=Op.floatArith .add .f64 a b:=by simp [binOp]
  rw [e]
  exact Do4 (o:=Ieee.double.add a b) (fun w=>by unfold Op.floatArith;cases c:Ieee.double.add a b<;>simp [FloatKind.format,c]) (fun r=>Et5) h
 case sub=>
  have e:binOp .sub t (.float .f64 a) (.float .f64 b)=Op.floatArith .sub .f64 a b:=by simp [binOp]
  rw [e]
  exact Do4 (o:=Ieee.double.sub a b) (fun w=>by unfold Op.floatArith;cases c:Ieee.double.sub a b<;>simp [FloatKind.format,c]) (fun r=>Et7) h
 case mul=>
  have e:binOp .mul t (.float .f64 a) (.float .f64 b)=Op.floatArith .mul .f64 a b:=by simp [binOp]
  rw [e]
  exact Do4 (o:=Ieee.double.mul a b) (fun w=>by unfold Op.floatArith;cases c:Ieee.double.mul a b<;>simp [FloatKind.format,c]) (fun r=>Eu4) h
 case quo=>
  have e:binOp .quo t (.float .f64 a) (.float .f64 b)=Op.floatArith .quo .f64 a b:=by simp [binOp]
  rw [e]
  exact Do4 (o:=Ieee.double.div a b) (fun w=>by unfold Op.floatArith;cases c:Ieee.double.div a b<;>simp [FloatKind.format,c]) (fun r=>Ew2) h
 all_goals exact ⟨_,w,by simp [binOp,Op.floatCmp,FloatKind.format,bne];rfl,h⟩
theorem Fm4 {op:BinOp} {k:IntKind} {a b:Int} {w:World} {K:Value→World→Prop} (t:Nat) (hs:op ≠ .shl∧op ≠ .shr) (h:Dg0 op k a b fun v=>K v w) :
 Dh9 P K (binOp op t (.int k a) (.int k b)) w:=by
 cases op<;>simp only [Dg0] at h<;>(try exact h.elim)<;>(try (exact absurd rfl hs.1))<;>(try (exact absurd rfl hs.2))
 case quo=>obtain ⟨hb,h⟩:=h;exact ⟨_,w,by simp [binOp,Op.intDiv,hb],h⟩
 case rem=>obtain ⟨hb,h⟩:=h;exact ⟨_,w,by simp [binOp,Op.intDiv,hb],h⟩
 all_goals exact ⟨_,w,by simp only [binOp,ne_eq,not_true_eq_false,if_false,Op.intArith,Op.intBits,Op.intCmp,Sem.run_pure],h⟩
section
variable {t:Nat} {d:TypeDesc} (hd:P.underlying t=some d)
include hd
theorem Ff6 (e:d = .bool) (n:Nat) (a b:Bool) (w:World):(Op.equalIn (n+1) t (.bool a) (.bool b)).run P w = .ok (a==b) w:=by
 subst e;simp [Op.equalIn,Ad3 hd]
theorem Ga9 {x:Nat} (e:d = .pointer x) (n:Nat) (p:Option Addr) (w:World):(Op.equalIn (n+1) t (.pointer p) (.pointer none)).run P w = .ok p.isNone w:=by
 subst e;cases p<;>simp [Op.equalIn,Ad3 hd]
theorem Gq2 {x:Nat} (e:d = .slice x) (n:Nat) (p:Option Addr) (l c l' c':Nat) (w:World):(Op.equalIn (n+1) t (.slice p l c) (.slice none l' c')).run P w = .ok p.isNone w:=by
 subst e;cases p<;>simp [Op.equalIn,Ad3 hd]
end
theorem Br9 (t:Nat) (x y:Value):Op.equal t x y=Op.equalIn (9999+1) t x y:=rfl
theorem Gh2 {t:Nat} {ti:TI} (ht:TIOk P t ti) {op:BinOp} {x y:Value} {w:World} {K:Value→World→Prop} (h:Cj3 ti op x y w K):Dh9 P K (binOp op t x y) w:=by
 obtain ⟨d,hd,hk⟩:=ht.desc
 unfold Cj3 at h
 split at h
 · -- ints
   rename_i k a k' b
   split at h
   · obtain ⟨i,h⟩:=h
     exact ⟨_,w,by simp only [binOp,Op.shift];rw [if_neg (by omega)];rfl,h⟩
   · obtain ⟨i,h⟩:=h
     exact ⟨_,w,by simp only [binOp,Op.shift];rw [if_neg (by omega)];rfl,h⟩
   · rename_i op' j f
     obtain ⟨hk',h'⟩:=Eng.cond_true h
     obtain rfl:=Fn6 hk'
     exact Fm4 t ⟨fun e=>j e,fun e=>f e⟩ h'
 · split at h
   · exact Fd2 t h
   · exact h.elim
 · -- bools
   split at h
   · rename_i hb
     rw [hb] at hk
     cases d<;>(try exact hk.elim)
     split at h
     · exact ⟨_,w,by simp only [binOp,Br9,Sem.run_bind,Ff6 hd rfl,Result.andThen_ok,Sem.run_pure],h⟩
     · exact ⟨_,w,by simp only [binOp,Br9,Sem.run_bind,Ff6 hd rfl,Result.andThen_ok,Sem.run_pure],h⟩
     · exact h.elim
   · exact h.elim
 · -- pointers
   rename_i p
   split at h
   · rename_i hb
     rw [hb] at hk
     cases d<;>(try exact hk.elim)
     split at h
     · exact ⟨.bool p.isNone,w,by simp only [binOp,Br9,Sem.run_bind,Ga9 hd rfl,Result.andThen_ok,Sem.run_pure],h⟩
     · exact ⟨.bool (!p.isNone),w,by simp only [binOp,Br9,Sem.run_bind,Ga9 hd rfl,Result.andThen_ok,Sem.run_pure],h⟩
     · exact h.elim
   · exact h.elim
 · -- slices
   rename_i p _ _ _ _
   split at h
   · rename_i hb
     rw [hb] at hk
     cases d<;>(try exact hk.elim)
     split at h
     · exact ⟨.bool p.isNone,w,by simp only [binOp,Br9,Sem.run_bind,Gq2 hd rfl,Result.andThen_ok,Sem.run_pure],h⟩
     · exact ⟨.bool (!p.isNone),w,by simp only [binOp,Br9,Sem.run_bind,Gq2 hd rfl,Result.andThen_ok,Sem.run_pure],h⟩
     · exact h.elim
   · exact h.elim
 · -- strings
   split at h
   · exact ⟨_,w,by simp [binOp,Op.stringOp],h⟩
   · exact ⟨_,w,by simp [binOp,Op.stringOp],h⟩
   · exact h.elim
 · -- structs of three whole numbers
   rename_i xs ys
   obtain ⟨he,f⟩:=Eng.cond_true h
   replace h:=f
   clear f
   have g:=(ht.eq3 he).2
   unfold Gl5 at h
   split at h
   · rename_i a b c a' b' c' hx hy
     have ex:xs = #[.int .i64 a,.int .i64 b,.int .i64 c]:=by rw [← Array.toArray_toList (xs:=xs),hx]
     have ey:ys = #[.int .i64 a',.int .i64 b',.int .i64 c']:=by rw [← Array.toArray_toList (xs:=ys),hy]
     subst ex;subst ey
     split at h
     · exact ⟨_,w,by simp only [run_eql_struct,g,Result.andThen_ok],h⟩
     · exact ⟨_,w,by simp only [run_neq_struct,g,Result.andThen_ok],h⟩
     · exact h.elim
   · exact h.elim
 · exact h.elim
theorem Et8 {t:Nat} {ti:TI} (ht:TIOk P t ti) {op:BinOp} {x y:Value} {w:World} {K:Value→World→Prop} (h:Cj3 ti op x y w K) (ox oy:Operand) (w':World):(eqGuard op t ox oy x y).run P w' = .ok () w':=by
 by_cases hagg:∃ xs ys,x = .agg xs∧y = .agg ys
 · obtain ⟨xs,ys,rfl,rfl⟩:=hagg
   obtain ⟨he,_⟩:=Eng.cond_true (show cond ti.eq3 _ False from h)
   exact run_eqGuard_agg w' op t ox oy xs ys (ht.eq3 he).1
 have hc:(match x,y with | .nilIface,.nilIface=>False | .agg _,.agg _=>False | _,_=>True):=by
  cases x<;>cases y<;>(first | trivial | exact h | exact hagg ⟨_,_,rfl,rfl⟩)
 cases op<;>(try rfl)
 all_goals (cases x<;>cases y<;>(first | rfl | exact hc.elim))
theorem Gt8 {op:UnOp} {x:Value} {w:World} {K:Value→World→Prop} (h:unD op x fun v=>K v w):Dh9 P K (Op.unary op x) w:=by
 unfold unD at h
 split at h
 · exact ⟨_,w,by simp only [Op.unary,Op.intArith,Sem.run_pure],h⟩
 · rename_i k n
   refine ⟨.int k (k.wrap (BitVec.ofInt k.bits (cond k.signed (-1) k.max) ^^^ BitVec.ofInt k.bits n).toNat),w,?_,h⟩
   simp only [Op.unary,Op.intBits,Sem.run_pure]
   cases k.signed<;>rfl
 · exact ⟨_,w,rfl,h⟩
 · exact ⟨_,w,rfl,h⟩
 · exact h.elim
theorem Fs5 {s d:Nat} {ts td:TI} (hs:TIOk P s ts) (hd:TIOk P d td) {x:Value} {w:World} {K:Value→World→Prop} (h:Db9 ts.d td.d x w K):Dh9 P K (convert s d x) w:=by
 obtain ⟨j,g,c⟩:=hs.desc
 obtain ⟨l,i,a⟩:=hd.desc
 unfold Db9 at h
 split at h
 · rename_i k' k o n e f
   rw [e] at c;rw [f] at a
   cases j<;>(try exact c.elim)
   cases l<;>(try exact a.elim)
   cases a
   exact ⟨_,w,by simp [convert,Ad3 g,Ad3 i,Conv.intToInt],h⟩
 · rename_i k' o n e f
   rw [e] at c;rw [f] at a
   cases j<;>(try exact c.elim)
   cases l<;>(try exact a.elim)
   cases a
   exact ⟨_,w,by simp [convert,Ad3 g,Ad3 i,Conv.intToFloat],h⟩
 · rename_i k b e f
   rw [e] at c;rw [f] at a
   cases j<;>(try exact c.elim)
   cases l<;>(try exact a.elim)
   cases a
   obtain ⟨p,q⟩:=h
   cases hf:f2i b k with
   | some n=>
     refine ⟨_,w,?_,p n hf⟩
     unfold f2i at hf
     simp only [convert,Sem.run_bind,Ad3 g,Ad3 i,Result.andThen_ok,Conv.floatToInt,FloatKind.decode,FloatKind.format]
     split at hf
     · rename_i m hm
       split at hf
       · rename_i hb;cases hf;simp [hm,hb]
       · cases hf
     · cases hf
   | none=>
     refine ⟨.int k (k.wrap (Question.cut (.floatToInt .f64 b k) (w.tape w.drawn (.floatToInt .f64 b k)))),w.drewN 1,?_,q hf _ 1 ?_⟩
     · unfold f2i at hf
       simp only [convert,Sem.run_bind,Ad3 g,Ad3 i,Result.andThen_ok,Conv.floatToInt,FloatKind.decode,FloatKind.format]
       split at hf
       · rename_i m hm
         split at hf
         · cases hf
         · rename_i hb
           simp only [hm]
           rw [if_neg hb]
           simp [Question.forced];rfl
       · rename_i hm
         simp [hm,Question.forced];rfl
     · exact Fh1 k _
 · rename_i b e f
   rw [e] at c;rw [f] at a
   cases j<;>(try exact c.elim)
   cases l<;>(try exact a.elim)
   cases a
   exact ⟨_,w,by simp [convert,Ad3 g,Ad3 i,Conv.floatToFloat],h⟩
 · exact h.elim
end
end Go.Eng
/-
  Each operation of the definitional reading is sound (continued): all operations in one theorem. No condition but that the table of types is the program's.
-/
namespace Go.Eng
open Go
section
variable {P:Program} {T:Nat→Option TI}
theorem Ax2 {α:Type}:∀ (l:List α) (i:Nat),nth l i=l[i]?
 | [],i=>by simp [nth]
 | a::l,0=>by simp [nth]
 | a::l,i+1=>by simp [nth,Ax2 l i]
theorem Bd9 {x:Int} {y:Nat} {c:BoundsCode} (h:0≤x∧x≤y) (w:World):(Instr.sliceBound (.int .i64 x) y c).run P w = .ok x.toNat w:=by
 simp [Instr.sliceBound,asIntOf,h.1,h.2]
theorem Ea6 {size:Nat} {a:Option Addr} {len cap:Nat} {lo hi mx:Option Value} {K:Value→Prop} (h:Cb8 size a len cap lo hi mx K) (isS:Bool) :
 ∃ l hh m,(∀ w,(Instr.sliceBounds isS len cap lo hi mx).run P w = .ok (l,hh,m) w)∧K (.slice (Ak1 a l m size) (hh-l) (m-l)):=by
 unfold Cb8 at h
 split at h
 · exact ⟨0,len,cap,fun w=>by simp [Instr.sliceBounds],by simpa using h⟩
 · obtain ⟨b,c,h⟩:=h
   exact ⟨_,len,cap,fun w=>by simp [Instr.sliceBounds,Bd9 ⟨b,c⟩],h⟩
 · rename_i y
   obtain ⟨b,c,h⟩:=h
   exact ⟨0,y.toNat,cap,fun w=>by simp [Instr.sliceBounds,Bd9 ⟨b,c⟩],by simpa using h⟩
 · obtain ⟨b,c,e,f,h⟩:=h
   exact ⟨_,_,cap,fun w=>by
    simp only [Instr.sliceBounds,Sem.run_bind,Sem.run_pure,Result.andThen_ok,Bd9 ⟨b,c⟩]
    rw [Bd9 ⟨e,by omega⟩];rfl,h⟩
 · obtain ⟨b,c,e,f,g,i,h⟩:=h
   exact ⟨_,_,_,fun w=>by
    simp only [Instr.sliceBounds,Sem.run_bind,Sem.run_pure,Result.andThen_ok,Bd9 ⟨b,c⟩]
    rw [Bd9 ⟨e,by omega⟩]
    simp only [Result.andThen_ok]
    rw [Bd9 ⟨g,by omega⟩];rfl,h⟩
 · exact h.elim
theorem Eq4:∀ (vs:List Value) (off j:Nat) (cs:Array Value),(vs.zipIdx j).foldl (fun cs (p:Value×Nat)=>cs.setIfInBounds (off+p.2) p.1) cs=(Ev9 (off+j) vs cs.toList).toArray
 | [],off,j,cs=>by simp [Ev9]
 | v::vs,off,j,cs=>by
   simp only [List.zipIdx_cons,List.foldl_cons,Ev9]
   rw [Eq4 vs off (j+1)]
   simp [Nat.add_assoc]
theorem Dm4 {pl:Nat→Option (Nat×Nat)}:∀ {ps:List (Nat×Value)} {cells out:List Value},Da0 pl cells ps=some out→Instr.fill pl cells.toArray ps=some out.toArray
 | [],cells,out,h=>by simp only [Da0] at h;cases h;rfl
 | (i,v)::ps,cells,out,h=>by
   simp only [Da0] at h
   cases hp:pl i with
   | none=>simp [hp] at h
   | some p=>
     obtain ⟨off,size⟩:=p
     simp only [hp] at h
     cases hb:Nat.beq (Ai5 v).length size with
     | false=>simp [hb] at h
     | true=>
       cases a:Nat.ble (off+size) cells.length with
       | false=>simp [hb,a] at h
       | true=>
         simp only [hb,a] at h
         have b:=AA hb
         have e:=Nat.le_of_ble_eq_true a
         have c:v.cells.size=size:=by rw [Az2] at b;simpa using b
         simp only [Instr.fill,hp]
         rw [if_neg (by simp [c];omega)]
         have:=Eq4 (Ai5 v) off 0 cells.toArray
         have hz:Array.foldl (fun cs (x:Value×Nat)=>cs.setIfInBounds (off+x.2) x.1) cells.toArray v.cells.zipIdx=(Ev9 off (Ai5 v) cells).toArray:=by
          rw [Az2] at this ⊢
          rw [← Array.foldl_toList,Array.toList_zipIdx]
          simpa using this
         rw [hz]
         exact Dm4 h
theorem Fj7 (hT:TOk P T):∀ {l:List Field} {pl:List (Nat×Nat)},Gf2 T (l.map fun f=>(f.type,f.offset))=some pl →
 ∀ w,(l.mapM fun f=>(do pure (f.offset,← sizeOf f.type):Sem (Nat×Nat))).run P w = .ok pl w
 | [],pl,h,w=>by simp only [List.map_nil,Gf2] at h;cases h;rfl
 | f::l,pl,h,w=>by
   simp only [List.map_cons,Gf2] at h
   cases hs:Bg5 T f.type with
   | none=>simp [hs] at h
   | some s=>
     cases hr:Gf2 T (l.map fun f=>(f.type,f.offset)) with
     | none=>simp [hs,hr] at h
     | some r=>
       simp [hs,hr] at h
       subst h
       have ih:=Fj7 hT hr
       simp only [Bg5] at hs
       cases hte:T f.type with
       | none=>simp [hte] at hs
       | some te=>
         simp [hte] at hs
         subst hs
         simp only [List.mapM_cons,Sem.run_bind,Aj2 (hT _ _ hte),Result.andThen_ok,Sem.run_pure,ih]
theorem Fk1 {t:Nat} {ti:TI} (ht:TIOk P t ti) (hT:TOk P T) {ps:Array (Nat×Operand)} {e:Env} {ρ:Operand→Value} (he:Gg4 e ρ) {w:World} {K:Value→World→Prop}
 (h:match ti.d with
 | .struct fs=>Ac6 (Gf2 T fs) fun pl=>Ac6 (Fd7 e ps.toList) fun vs=>Ac6 (Da0 (nth pl) (Ai5 ti.zero) vs) fun cs=>K (.agg cs.toArray) w
 | .array _ el=>Ac6 (Bg5 T el) fun s=>Ac6 (Fd7 e ps.toList) fun vs=>Ac6 (Da0 (fun i=>some (i*s,s)) (Ai5 ti.zero) vs) fun cs=>K (.agg cs.toArray) w
 | _=>False):Dh9 P K (Instr.build t (ps.map fun (i,x)=>(i,ρ x))) w:=by
 obtain ⟨d,hd,hk⟩:=ht.desc
 split at h
 · rename_i fs hfs
   rw [hfs] at hk
   cases d<;>(try exact hk.elim)
   rename_i fields
   obtain ⟨pl,hpls,h⟩:=Aa3 h
   obtain ⟨vs,hvs,h⟩:=Aa3 h
   obtain ⟨cs,hcs,h⟩:=Aa3 h
   refine ⟨_,w,?_,h⟩
   have hparts:(ps.map fun (i,x)=>(i,ρ x)).toList=vs:=by
    have:=Do6 he hvs
    simpa using this
   have hk':fs=fields.toList.map fun f=>(f.type,f.offset):=hk
   subst hk'
   have hpl:=Fj7 hT hpls w
   have:=Dm4 hcs
   rw [Bh7] at this
   have hfn:(fun i=>pl.toArray[i]?)=nth pl:=by funext i;simp [Ax2]
   simp only [Instr.build,Sem.run_bind,Bq8 ht,Result.andThen_ok,Ad3 hd,Array.mapM_eq_mapM_toList,Sem.run_map,hpl,hparts,hfn,this,Sem.run_pure]
 · rename_i n el hn
   rw [hn] at hk
   cases d<;>(try exact hk.elim)
   obtain ⟨a,b⟩:=hk
   subst a;subst b
   obtain ⟨s,hs,h⟩:=Aa3 h
   obtain ⟨vs,hvs,h⟩:=Aa3 h
   obtain ⟨cs,hcs,h⟩:=Aa3 h
   refine ⟨_,w,?_,h⟩
   have hparts:(ps.map fun (i,x)=>(i,ρ x)).toList=vs:=by
    have:=Do6 he hvs
    simpa using this
   simp only [Bg5] at hs
   cases hte:T el with
   | none=>simp [hte] at hs
   | some te=>
     simp [hte] at hs
     subst hs
     have:=Dm4 hcs
     rw [Bh7] at this
     simp only [Instr.build,Sem.run_bind,Bq8 ht,Result.andThen_ok,Ad3 hd,Aj2 (hT _ _ hte),hparts,this,Sem.run_pure]
 · exact h.elim
end
end Go.Eng
