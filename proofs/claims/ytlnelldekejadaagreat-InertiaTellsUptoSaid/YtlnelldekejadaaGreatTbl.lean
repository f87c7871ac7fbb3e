/-
  The definitional reading of a whole body is sound: if 'funD' holds, the call returns, with a value and a world of which what was asked holds. No condition but that the table of types is the program's.
-/
import Derived.Test.YtlnelldekejadaaGreatRegs4
import Derived.Scope
set_option linter.all false
open Nat renaming eq_of_beq_eq_true→AA,beq→AC
open Bool renaming false_eq_true→AB
namespace Go.Eng
open Go
section
variable {P:Program} {T:Nat→Option TI} {n:Nat}
def wr:Code→Nat→Prop
 | .region _ ops _,t=>∃ o∈ops.toList,o.dst=some t
 | .seq a b,t=>wr a t∨wr b t
 | .cond _ a b,t=>wr a t∨wr b t
 | .block _ c,t=>wr c t
 | .loop c,t=>wr c t
 | .scope c,t=>wr c t
 | _,_=>False
def Gm7 (n:Nat) (p:Nat→Prop) (a0:Act) (Kn:Env→World→Prop) (Kx:Nat→Env→World→Prop) (Kr:Env→World→Prop):Exit→Act→World→Prop
 | .normal,a,w=>Fr p a0 a∧∃ e,Rel n e a∧Kn e w
 | .exit id,a,w=>Fr p a0 a∧∃ e,Rel n e a∧Kx id e w
 | .ret,a,w=>∃ e,Rel n e a∧Kr e w
 | _,_,_=>False
theorem Go3:∀ {c:Ce} {v:Value} {x:c.T},c.get v=some x→c.v x=v:=by
 intro c v x h
 cases c<;>cases v<;>simp only [Ce.get] at h<;>(try (cases h;done))
 case int.int k k' n=>
  cases hk:kEq k k' with
  | false=>rw [hk] at h;cases h
  | true=>rw [hk] at h;obtain rfl:=Fn6 hk;cases h;rfl
 case f64.float k b=>
  cases k
  · cases h
  · cases h;rfl
 all_goals (cases h;rfl)
theorem Fj2:∀ {cs:List Ce} {vs:List Value} {x:CsT cs},Dx3 cs vs=some x→csV cs x=vs
 | [],[],x,h=>rfl
 | [],v::vs,x,h=>by simp [Dx3] at h
 | c::cs,[],x,h=>by simp [Dx3] at h
 | c::cs,v::vs,x,h=>by
   simp only [Dx3] at h
   cases a:c.get v with
   | none=>simp [a] at h
   | some y=>
     cases b:Dx3 cs vs with
     | none=>simp [a,b] at h
     | some r=>
       simp only [a,b] at h
       cases h
       show c.v y::csV cs r=v::vs
       rw [Go3 a,Fj2 b]
theorem Gd0 {s:Sh} {v:Value} {x:s.T} (h:s.get v=some x):s.v x=v:=by
 cases s with
 | one k=>exact Go3 h
 | agg cs=>
   have hg:(match Gm1 v with | some vs=>Dx3 cs vs | none=>none)=some x:=h
   cases ha:Gm1 v with
   | none=>rw [ha] at hg;cases hg
   | some vs=>
     rw [ha] at hg
     have a:=Fj2 (x:=x) hg
     have b:v = .agg vs.toArray:=by
      cases v<;>first | (cases ha;rfl) | (cases ha)
     show Value.agg (csV cs x).toArray=_
     rw [a,b]
theorem Ej5:∀ {W:List (Nat×Sh)} {e:Env} {s:Tup W},Ck6 W e=some s→∀ t v,Er9 W s t=some v→e t=some v
 | [],e,s,h,t,v,ht=>by simp [Er9] at ht
 | p::W,e,s,h,t,v,ht=>by
   simp only [Ck6] at h
   cases a:e p.1 with
   | none=>simp [a] at h
   | some u=>
     cases b:p.2.get u with
     | none=>simp [a,b] at h
     | some x=>
       cases c:Ck6 W e with
       | none=>simp [a,b,c] at h
       | some r=>
         simp only [a,b,c] at h
         cases h
         simp only [Er9] at ht
         cases hb:AC t p.1 with
         | true=>
           rw [hb] at ht
           have:=AA hb
           subst this
           simp at ht
           rw [Gd0 b] at ht
           rw [a,ht]
         | false=>rw [hb] at ht;exact Ej5 c t v ht
theorem Eg9 {a b:Bool} (h:cond a b false=true):a=true∧b=true:=by cases a<;>simp_all
theorem Ef2 {D:List (Nat×Nat)} {ops:List Oper} (h:Ej6 D ops=true) (o:Oper) (ho:o∈ops) (t:Nat) (ht:o.dst=some t):inD D t=true:=by
 induction ops with
 | nil=>cases ho
 | cons o' os ih=>
   simp only [Ej6] at h
   obtain ⟨a,b⟩:=Eg9 h
   rcases List.mem_cons.1 ho with rfl | ho
   · rw [ht] at a;exact a
   · exact ih b ho
theorem Bv1 {D:List (Nat×Nat)} {c:Code} (h:Bt0 D c=true) (t:Nat) (hw:wr c t):inD D t=true:=by
 induction c with
 | region id ops d=>obtain ⟨o,ho,ht⟩:=hw;exact Ef2 h o ho t ht
 | seq a b iha ihb=>exact hw.elim (iha (Eg9 h).1) (ihb (Eg9 h).2)
 | cond x a b iha ihb=>exact hw.elim (iha (Eg9 h).1) (ihb (Eg9 h).2)
 | block id c ih=>exact ih h hw
 | loop c ih=>exact ih h hw
 | scope c ih=>exact ih h hw
 | _=>exact hw.elim
theorem Cx8 {W:List (Nat×Sh)} {D:List (Nat×Nat)} {e e':Env} {a a':Act} {s:Tup W} {p:Nat→Prop} (hr:Rel n e a) (hr':Rel n e' a') (hf:Fr p a a') (hp:∀ t,p t→inD D t=true) (hs:Ck6 W e'=some s) :
 Rel n (Eu6 W D e s) a':=by
 refine ⟨hr'.size,hr'.defers,fun t v h=>?_⟩
 unfold Eu6 at h
 cases b:Er9 W s t with
 | some u=>
   rw [b] at h
   cases h
   exact hr'.vals t _ (Ej5 hs t _ b)
 | none=>
   rw [b] at h
   simp only at h
   cases hb:inD D t with
   | true=>rw [hb] at h;cases h
   | false=>
     rw [hb] at h
     have hnp : ¬ p t:=fun hh=>by rw [hp t hh] at hb;cases hb
     rw [hf t hnp]
     exact hr.vals t v h
theorem Ed9 {m:Option Gm4} {c:Code} {e:Env} {a:Act} {f:(Env→World→Prop)→Prop} {Kn:Env→World→Prop} (hr:Rel n e a) (h:El0 m c e f Kn) :
 ∃ K:Env→World→Prop,f K∧∀ e' a' w',Rel n e' a'→Fr (wr c) a a'→K e' w'→∃ e'',Rel n e'' a'∧Kn e'' w':=by
 unfold El0 at h
 split at h
 · exact ⟨Kn,h,fun e' a' w' hr' _ hk=>⟨e',hr',hk⟩⟩
 · rename_i W D
   obtain ⟨hD,h⟩:=cond_true h
   refine ⟨_,h,fun e' a' w' hr' hf hk=>?_⟩
   obtain ⟨s,hs,hk⟩:=Aa3 hk
   exact ⟨_,Cx8 hr hr' hf (Bv1 hD) hs,hk⟩
theorem En1 {e:Env} {a:Act} {c:Operand} {b:Bool} (hr:Rel n e a) (h:a.eval c = .bool b):Rel n (Gz3 e c b) a:=by
 cases c with
 | tmp t=>exact hr.upd_same h
 | _=>exact hr
theorem Ew0 {p:Nat→Prop} {a0:Act} {Kn:Env→World→Prop} {Kx:Nat→Env→World→Prop} {Kr:Env→World→Prop} (c:List PanicEntry) (a:Act) (w:World) : ¬ Gm7 n p a0 Kn Kx Kr (.panic c) a w:=fun h=>h
theorem Ft3 (hT:TOk P T) (hZ:Cf0 T) (hm:P.follows .mixedOrders=true) {an:An}:∀ (c:Code) (cur:Nat) (e:Env) (Kn:Env→World→Prop) (Kx:Nat→Env→World→Prop) (Kr:Env→World→Prop) (w:World) (a:Act),
 Rel n e a→Da4 P T n an c cur e Kn Kx Kr w→c.wp P (Gm7 n (wr c) a Kn Kx Kr) a w:=by
 intro c
 induction c with
 | skip=>intro cur e Kn Kx Kr w a hr h;exact wp_skip ⟨Fr.refl _ _,e,hr,h⟩
 | region id ops draw=>
   intro cur e Kn Kx Kr w a hr h
   obtain ⟨K,i,u⟩:=Ed9 hr h
   exact Ev8 hT hZ hm hr i (p:=wr (.region id ops draw)) (fun o ho t ht=>⟨o,ho,ht⟩) Ew0
    (fun e' a' w' hr' hf hk=>⟨hf,u e' a' w' hr' hf hk⟩)
 | seq x y ihx ihy=>
   intro cur e Kn Kx Kr w a hr h
   refine wp_seq (wp_mono (ihx cur e _ Kx Kr w a hr h) fun ex d g hp=>?_)
   cases ex with
   | normal=>
     obtain ⟨hf,q,m,hk⟩:=hp
     refine wp_mono (ihy cur q Kn Kx Kr g d m hk) fun ex a2 w2 r=>?_
     cases ex with
     | normal=>obtain ⟨aa,hh⟩:=r;exact ⟨(hf.mono (fun _ h => .inl h)).trans (aa.mono (fun _ h => .inr h)),hh⟩
     | exit id=>obtain ⟨aa,hh⟩:=r;exact ⟨(hf.mono (fun _ h => .inl h)).trans (aa.mono (fun _ h => .inr h)),hh⟩
     | ret=>exact r
     | goto l=>exact r.elim
     | panic ch=>exact r.elim
     | outgrown=>exact r.elim
   | exit id=>obtain ⟨hf,hh⟩:=hp;exact ⟨hf.mono (fun _ h => .inl h),hh⟩
   | ret=>exact hp
   | goto l=>exact hp.elim
   | panic ch=>exact hp.elim
   | outgrown=>exact hp.elim
 | cond c x y ihx ihy=>
   intro cur e Kn Kx Kr w a hr h
   obtain ⟨K,i,u⟩:=Ed9 hr h
   obtain ⟨v,hv,i⟩:=Ab3 i
   have hval:=hr.ev c v hv
   have up:∀ (z:Code),(∀ t,wr z t→wr (.cond c x y) t)→∀ ex d g,Gm7 n (wr z) a K Kx Kr ex d g→Gm7 n (wr (.cond c x y)) a Kn Kx Kr ex d g:=by
    intro z hz ex d g hp
    cases ex with
    | normal=>obtain ⟨hf,q,m,hk⟩:=hp;exact ⟨hf.mono hz,u q d g m (hf.mono hz) hk⟩
    | exit id=>obtain ⟨hf,hh⟩:=hp;exact ⟨hf.mono hz,hh⟩
    | ret=>exact hp
    | goto l=>exact hp.elim
    | panic ch=>exact hp.elim
    | outgrown=>exact hp.elim
   split at i
   · rename_i t
     rcases As2 i with ⟨rfl,i⟩ | ⟨rfl,i⟩
     · exact wp_cond_true hval (wp_mono (ihx cur _ K Kx Kr w a (En1 hr hval) i) (up x fun _ h => .inl h))
     · exact wp_cond_false hval (wp_mono (ihy cur _ K Kx Kr w a (En1 hr hval) i) (up y fun _ h => .inr h))
   · exact i.elim
 | block id c ih=>
   intro cur e Kn Kx Kr w a hr h
   obtain ⟨K,i,u⟩:=Ed9 hr h
   refine wp_block (wp_mono (ih id e K _ Kr w a hr i) fun ex d g hp=>?_)
   cases ex with
   | normal=>obtain ⟨hf,q,m,hk⟩:=hp;exact ⟨hf,u q d g m hf hk⟩
   | exit j=>
     obtain ⟨hf,q,m,hk⟩:=hp
     show (if j=id then _ else _)
     rcases As2 hk with ⟨hb,hk⟩ | ⟨hb,hk⟩
     · rw [if_pos (AA hb)];exact ⟨hf,u q d g m hf hk⟩
     · rw [if_neg (fun he=>by subst he;simp at hb)];exact ⟨hf,q,m,hk⟩
   | ret=>exact hp
   | goto l=>exact hp.elim
   | panic ch=>exact hp.elim
   | outgrown=>exact hp.elim
 | loop c ih=>
   intro cur e Kn Kx Kr w a hr h
   unfold Da4 at h
   split at h
   · rename_i W D _
     obtain ⟨hD,h⟩:=cond_true h
     obtain ⟨s0,ac,h⟩:=Aa3 h
     have key:=h (fun s w=>∀ a',Rel n (Eu6 W D e s) a'→Fr (wr c) a a'→∀ (b:Frame) (k:List Item) (cs:List Frame),
      ∃ ex d g,Gm7 n (wr c) a Kn Kx Kr ex d g∧Arrives P (lone (b.at a' (.code c :: .inLoop c::k)) cs w) b k cs ex d g) (by
      intro s w' hbody a' hr' hf' b k cs
      obtain ⟨ex,d,g,hp,harr⟩:=ih cur (Eu6 W D e s) _ Kx Kr w' a' hr' hbody b (.inLoop c::k) cs
      cases ex with
      | normal=>
        obtain ⟨ab,q,m,hk⟩:=hp
        obtain ⟨s1,ad,hk⟩:=Aa3 hk
        have hfr:=hf'.trans ab
        obtain ⟨ae,a2,w2,r,harr2⟩:=hk d (Cx8 hr m hfr (Bv1 hD) ad) hfr b k cs
        exact ⟨ae,a2,w2,r,.of_steps (Steps.trans harr (.one step_inLoop)) harr2⟩
      | exit id=>
        obtain ⟨ab,hh⟩:=hp
        exact ⟨.exit id,d,g,⟨hf'.trans ab,hh⟩,.pass (x := .inLoop c) rfl (fun _ _ => .inl (by simp)) harr⟩
      | ret=>exact ⟨.ret,d,g,hp,.pass (x := .inLoop c) rfl (fun _ _ => .inl (by simp)) harr⟩
      | goto l=>exact hp.elim
      | panic ch=>exact hp.elim
      | outgrown=>exact hp.elim)
     intro b k cs
     obtain ⟨ex,d,g,hp,harr⟩:=key a (Cx8 hr hr (Fr.refl (wr c) _) (Bv1 hD) ac) (Fr.refl _ _) b k cs
     exact ⟨ex,d,g,hp,.of_steps (.one step_loop) harr⟩
   · exact h.elim
 | exit id=>intro cur e Kn Kx Kr w a hr h;exact wp_exit ⟨Fr.refl _ _,e,hr,h⟩
 | ret=>intro cur e Kn Kx Kr w a hr h;exact wp_ret ⟨e,hr,h⟩
 | rangeFunc f ps as b _ _=>intro cur e Kn Kx Kr w a hr h;exact h.elim
 | scope c ih=>
   intro cur e Kn Kx Kr w a hr h
   refine wp_scope_straight (wp_mono (ih cur e Kn Kx Kr w a hr h) fun ex d g hp=>?_)
   cases ex with
   | normal=>exact hp
   | exit id=>exact hp
   | ret=>exact hp
   | goto l=>exact hp.elim
   | panic ch=>exact hp.elim
   | outgrown=>exact hp.elim
 | label l=>intro cur e Kn Kx Kr w a hr h;exact wp_label ⟨Fr.refl _ _,e,hr,h⟩
 | goto l=>intro cur e Kn Kx Kr w a hr h;exact h.elim
 | refuse y=>intro cur e Kn Kx Kr w a hr h;exact h.elim
theorem Eh6 (hT:TOk P T) (hZ:Cf0 T) {e:Env} {a:Act} {w:World} (hr:Rel n e a):∀ {rs:List ResultVar} {K:List Value→Prop},Gm3 T rs e w K →
 ∃ vs:List Value,(rs.mapM fun r=>(match r with | .tmp t=>pure (a.tmps.getD t undef) | .cell x t=>do loadVar t (← asAddr (a.tmps.getD x undef)):Sem Value)).run P w = .ok vs w∧K vs
 | [],K,h=>⟨[],rfl,h⟩
 | .tmp t::rs,K,h=>by
   obtain ⟨v,hv,h⟩:=Aa3 h
   obtain ⟨vs,hrun,hk⟩:=Eh6 hT hZ hr h
   refine ⟨v::vs,?_,hk⟩
   simp only [List.mapM_cons,Sem.run_bind,Sem.run_pure,Result.andThen_ok,hrun,hr.vals t v hv]
 | .cell x t::rs,K,h=>by
   obtain ⟨p,hp,h⟩:=Aa3 h
   obtain ⟨ti,hti,h⟩:=Aa3 h
   obtain ⟨ad,v,rfl,hl,h⟩:=Eb4 (hT _ _ hti) (hZ _ _ hti) h
   obtain ⟨vs,hrun,hk⟩:=Eh6 hT hZ hr h
   refine ⟨v::vs,?_,hk⟩
   have b:asAddr (a.tmps.getD x undef)=pure ad:=by rw [hr.vals x _ hp];rfl
   simp only [List.mapM_cons,b,Sem.run_bind,Sem.run_pure,Result.andThen_ok,hl,hrun]
theorem Ex4 (vs:List Value):(if h:vs.toArray.size=1 then vs.toArray[0] else .tuple vs.toArray)=Eu7 vs:=by
 match vs with
 | []=>rfl
 | [v]=>rfl
 | v::u::l=>simp [Eu7]
theorem De4 (hT:TOk P T) (hZ:Cf0 T) {fn:Func} {e:Env} {a:Act} {w:World} (hr:Rel n e a) {K:Value→World→Prop} (h:Gm3 T fn.results.toList e w fun vs=>K (Eu7 vs) w) :
 ∃ v,(results fn a.tmps).run P w = .ok v w∧K v w:=by
 obtain ⟨vs,hrun,hk⟩:=Eh6 hT hZ hr h
 refine ⟨Eu7 vs,?_,hk⟩
 unfold results
 rw [Array.mapM_eq_mapM_toList]
 simp only [Sem.run_bind,Sem.run_map,Sem.run_pure]
 refine (congrArg (fun r:Result (List Value)=>(r.andThen fun a w'=>Result.ok a.toArray w').andThen fun a w'=>Result.ok (if h:a.size=1 then a[0] else Value.tuple a) w') hrun).trans ?_
 show Result.ok _ w=_
 rw [Ex4]
theorem Fj0 {args:Array Value} {m:Nat} (h:args.size≤m):Rel m (Gj1 args.toList) { tmps:=args++Array.replicate (m-args.size) undef,defers:=[] }:=by
 refine ⟨by simp;omega,rfl,fun t v hv=>?_⟩
 unfold Gj1 at hv
 rw [Ax2] at hv
 by_cases ht:t<args.size
 · have:args.toList[t]?=some args[t]:=by simp [ht]
   rw [this] at hv
   cases hv
   simp [Array.getElem?_append,ht]
 · have:args.toList[t]?=none:=by simp;omega
   rw [this] at hv
   cases hv
   simp [Array.getElem?_append,ht]
   by_cases a:t-args.size<m-args.size<;>simp [a]
theorem Et0 (hT:TOk P T) (hZ:Cf0 T) (hm:P.follows .mixedOrders=true) {f:FuncId} {fn:Func} {an:An} {args:Array Value} {w:World} {K:Value→World→Prop} (hf:P.funcs[f]?=some fn)
 (h:Gn1 P T fn an args.toList w K):Calls P f args w fun e w'=>∃ v,e = .returned v∧K v w':=by
 unfold Gn1 at h
 split at h
 · rename_i c hc
   obtain ⟨hb,h⟩:=cond_true h
   have hle:args.size≤fn.ntmps:=by simpa using Nat.le_of_ble_eq_true hb
   refine calls_of_wp hf hc (wp_mono (Ft3 hT hZ hm c 0 _ _ _ _ w _ (Fj0 hle) h) fun ex d g hp=>?_)
   cases ex with
   | normal=>
     obtain ⟨_,b,a,hk⟩:=hp
     obtain ⟨v,hv,hk⟩:=De4 (P:=P) hT hZ a hk
     exact ⟨a.defers,v,hv,v,rfl,hk⟩
   | exit id=>obtain ⟨_,b,a,hk⟩:=hp;exact hk.elim
   | ret=>
     obtain ⟨b,a,hk⟩:=hp
     obtain ⟨v,hv,hk⟩:=De4 (P:=P) hT hZ a hk
     exact ⟨a.defers,v,hv,v,rfl,hk⟩
   | goto l=>exact hp.elim
   | panic ch=>exact hp.elim
   | outgrown=>exact hp.elim
 · exact h.elim
theorem Eh7 (hT : TOk P T) (hZ : Cf0 T) (hm : P.follows .mixedOrders = true) {f : FuncId} {fn : Func} {an : An} {args : Array Value} {w : World} {K : Value → World → Prop} (hf : P.funcs[f]? = some fn) (hn : (fn.name == "runtime.NumGoroutine") = false)
 (h:Gn1 P T fn an args.toList w K):Aa1 P f args w K:=by
 have hc:=Et0 hT hZ hm hf h
 have hb:fn.body.isNone=false:=by
  unfold Gn1 at h
  split at h
  · rename_i c hc;rw [hc];rfl
  · exact h.elim
 unfold Aa1 callFunc
 simp only [Sem.run_bind,run_program,Result.andThen_ok,hf,hn,hb,AB,if_false,Sem.run_pure]
 exact hc
end
end Go.Eng
/-
  How the table of types of a program is laid beside the definitional reading; no condition.
-/
namespace Go.Eng
open Go
def tdB:TD→TypeDesc→Bool
 | .bool,.bool=>true
 | .int k,.int k'=>kEq k k'
 | .float .f64,.float .f64=>true
 | .float .f32,.float .f32=>true
 | .string,.string=>true
 | .ptr e,.pointer e'=>AC e e'
 | .slice e,.slice e'=>AC e e'
 | .array n e,.array n' e'=>cond (AC n n') (AC e e') false
 | .struct fs,.struct fields=>fs==fields.toList.map fun f=>(f.type,f.offset)
 | .tuple ts,.tuple es=>ts==es.toList
 | .func,.func _ _ _=>true
 | .other,d=>match d with | .struct _=>false | .array _ _=>false | _=>true
 | _,_=>false
theorem Fx4 {td:TD} {d:TypeDesc} (h:tdB td d=true):Hb1 td d:=by
 cases td<;>cases d<;>simp only [tdB] at h<;>(try (cases h;done))<;>(try exact True.intro)
 case int.int k k'=>exact Fn6 h
 case float.float k k'=>cases k<;>cases k'<;>first | rfl | (cases h)
 case ptr.pointer=>exact AA h
 case slice.slice=>exact AA h
 case array.array=>obtain ⟨a,b⟩:=Eg9 h;exact ⟨AA a,AA b⟩
 case struct.struct=>exact eq_of_beq h
 case tuple.tuple=>exact eq_of_beq h
theorem Ad5 {P:Program} {t:Nat} {ti:TI} {i:TypeInfo} {d:TypeDesc} (a:P.info? t=some i) (b:i.size=ti.size) (c:i.bytes=ti.bytes) (e:i.zero=some ti.zero) (f:P.underlying t=some d) (g:tdB ti.d d=true) (j:ti.eq3=false:=by rfl):TIOk P t ti:=
 ⟨⟨i,a,b,c,e⟩,⟨d,f,Fx4 g⟩,fun h=>by rw [j] at h;cases h⟩
theorem Gu8 {P : Program} {t : Nat} {d f g : Field} (i : P.underlying t = some (.struct #[d, f, g])) (j : P.stoodInHeld t = false) (k : P.eqGuardType P.depth t = false) (l : (d.name == "_") = false) (m : (f.name == "_") = false) (o : (g.name == "_") = false)
 (p:d.offset=0) (q:f.offset=1) (r:g.offset=2) (u0:P.underlying d.type=some (.int .i64)) (u1:P.underlying f.type=some (.int .i64)) (u2:P.underlying g.type=some (.int .i64)):Eq3 P t:=by
 refine ⟨k,fun a b c a' b' c' w=>?_⟩
 have hf:P.fieldsOf t = #[d,f,g]:=by simp [Program.fieldsOf,i]
 have s : d.name ≠ "_" := by simpa using l
 have u : f.name ≠ "_" := by simpa using m
 have x : g.name ≠ "_" := by simpa using o
 have ag:∀ {e:Nat},P.underlying e=some (.int .i64)→∀ w:World,(isAgg e).run P w = .ok false w:=fun h w=>by simp [isAgg,run_underlying h]
 have pt:∀ {e off:Nat} {xs:Array Value} {v:Value},P.underlying e=some (.int .i64)→xs[off]?=some v→∀ w:World,(part e xs off).run P w = .ok v w:=fun h hv w=>by simp [part,ag h,hv]
 rw [run_equalIn_struct w 9999 t _ _ (by rw [hf];exact i) j,hf]
 simp only [Op.eqFields,ne_eq,s,u,x,not_false_eq_true,if_true,Sem.run_bind,p,q,r]
 rw [pt u0 (v := .int .i64 a) rfl]
 simp only [Result.andThen_ok]
 rw [pt u0 (v := .int .i64 a') rfl]
 simp only [Result.andThen_ok]
 rw [run_equalIn_int _ 9998 _ _ _ _ _ u0]
 simp only [Result.andThen_ok]
 cases a==a' with
 | false=>rfl
 | true=>
   simp only [Bool.not_true,AB,if_false,Sem.run_bind]
   rw [pt u1 (v := .int .i64 b) rfl]
   simp only [Result.andThen_ok]
   rw [pt u1 (v := .int .i64 b') rfl]
   simp only [Result.andThen_ok]
   rw [run_equalIn_int _ 9998 _ _ _ _ _ u1]
   simp only [Result.andThen_ok]
   cases b==b' with
   | false=>rfl
   | true=>
     simp only [Bool.not_true,AB,if_false,Sem.run_bind]
     rw [pt u2 (v := .int .i64 c) rfl]
     simp only [Result.andThen_ok]
     rw [pt u2 (v := .int .i64 c') rfl]
     simp only [Result.andThen_ok]
     rw [run_equalIn_int _ 9998 _ _ _ _ _ u2]
     simp only [Result.andThen_ok]
     cases c==c'<;>rfl
theorem Fq5 {P:Program} {t:Nat} {ti:TI} {i:TypeInfo} {d:TypeDesc} (a:P.info? t=some i) (b:i.size=ti.size) (c:i.bytes=ti.bytes) (e:i.zero=some ti.zero) (f:P.underlying t=some d) (g:tdB ti.d d=true) (h:Eq3 P t):TIOk P t ti:=
 ⟨⟨i,a,b,c,e⟩,⟨d,f,Fx4 g⟩,fun _=>h⟩
def Fy8 (P:Program):List (Nat×TI)→Prop
 | []=>True
 | p::l=>TIOk P p.1 p.2∧Fy8 P l
theorem Cz4 {P:Program}:∀ {l:List (Nat×TI)},Fy8 P l→TOk P (Eh2 l)
 | [],_,t,ti,h=>by simp [Eh2] at h
 | p::l,hr,t,ti,h=>by
   simp only [Eh2] at h
   cases hb:AC p.1 t with
   | true=>
     rw [hb] at h
     have:=AA hb
     subst this
     cases h
     exact hr.1
   | false=>rw [hb] at h;exact Cz4 hr.2 t ti h
def Ga0:List (Nat×TI)→Bool
 | []=>true
 | p::l=>cond (cond p.2.d.isAgg (AC (Ai5 p.2.zero).length p.2.size) true) (Ga0 l) false
theorem Fu3 {l:List (Nat×TI)} (h:Ga0 l=true):Cf0 (Eh2 l):=by
 induction l with
 | nil=>intro t ti h;simp [Eh2] at h
 | cons p l ih=>
   intro t ti hl ha
   obtain ⟨a,b⟩:=Eg9 h
   simp only [Eh2] at hl
   cases hb:AC p.1 t with
   | true=>
     rw [hb] at hl
     cases hl
     rw [ha] at a
     exact AA a
   | false=>rw [hb] at hl;exact ih b t ti hl ha
abbrev cI_ (w:World) (p:Addr) (K:Int→Prop):Prop:=∃ n,w.cell? p=some (.int .i64 n)∧K n
abbrev cU_ (w:World) (p:Addr) (K:Int→Prop):Prop:=∃ n,w.cell? p=some (.int .u64 n)∧K n
abbrev cB_ (w:World) (p:Addr) (K:Bool→Prop):Prop:=∃ n,w.cell? p=some (.bool n)∧K n
abbrev cF_ (w:World) (p:Addr) (K:Nat→Prop):Prop:=∃ n,w.cell? p=some (.float .f64 n)∧K n
abbrev cW_ (w:World) (p:Addr) (K:Int→Prop):Prop:=∃ n,w.cell? p=some (.int .u32 n)∧K n
abbrev cS_ (w:World) (p:Addr) (K:Option Addr→Nat→Nat→Prop):Prop:=∃ a l c,w.cell? p=some (.slice a l c)∧K a l c
abbrev vS_ (v:Value) (K:Option Addr→Nat→Nat→Prop):Prop:=∃ a l c,v=(.slice a l c)∧K a l c
abbrev vB_ (v:Value) (K:Bool→Prop):Prop:=∃ b,v=(.bool b)∧K b
abbrev KV:=Value→World→Prop
abbrev OA:=Option Addr
abbrev c3D (w : World) (p : Addr) (K : Bool → Option Addr → Nat → Nat → Int → Prop) : Prop := ∃ b, w.cell? p = some (.bool b) ∧ ∃ a l c, w.cell? (p.add 1) = some (.slice a l c) ∧ ∃ n, w.cell? (p.add 2) = some (.int .i64 n) ∧ K b a l c n
abbrev c3G (w : World) (p : Addr) (K : Int → Int → Option Addr → Nat → Nat → Prop) : Prop := ∃ b, w.cell? p = some (.int .i64 b) ∧ ∃ n, w.cell? (p.add 1) = some (.int .i64 n) ∧ ∃ a l c, w.cell? (p.add 2) = some (.slice a l c) ∧ K b n a l c
abbrev c3S (w : World) (p : Addr) (K : Int → Int → Int → Prop) : Prop := ∃ b, w.cell? p = some (.int .i64 b) ∧ ∃ n, w.cell? (p.add 1) = some (.int .i64 n) ∧ ∃ c, w.cell? (p.add 2) = some (.int .i64 c) ∧ K b n c
abbrev s3D (p : Addr) (b : Bool) (a : Option Addr) (l c : Nat) (n : Int) (w : World) (K : World → Prop) : Prop := stM p (.bool b) w fun w => stM (p.add 1) (.slice a l c) w fun w => stM (p.add 2) (.int .i64 n) w K
abbrev s3G (p : Addr) (b n : Int) (a : Option Addr) (l c : Nat) (w : World) (K : World → Prop) : Prop := stM p (.int .i64 b) w fun w => stM (p.add 1) (.int .i64 n) w fun w => stM (p.add 2) (.slice a l c) w K
abbrev v3D (v : Value) (K : Bool → Option Addr → Nat → Nat → Int → Prop) : Prop := ∃ b, ∃ a l c, ∃ n, v = (.agg #[.bool b, .slice a l c, .int .i64 n]) ∧ K b a l c n
abbrev k3D (w : World) (p : Addr) (b : Bool) (a : Option Addr) (l c : Nat) (n : Int) (K : Unit → Prop) : Prop := w.cell? p = some (.bool b) ∧ w.cell? (p.add 1) = some (.slice a l c) ∧ w.cell? (p.add 2) = some (.int .i64 n) ∧ K ()
abbrev k3S (w : World) (p : Addr) (a b c : Int) (K : Unit → Prop) : Prop := w.cell? p = some (.int .i64 a) ∧ w.cell? (p.add 1) = some (.int .i64 b) ∧ w.cell? (p.add 2) = some (.int .i64 c) ∧ K ()
end Go.Eng
