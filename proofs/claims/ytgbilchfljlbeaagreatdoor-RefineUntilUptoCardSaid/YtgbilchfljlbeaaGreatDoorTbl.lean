/-
  The definitional reading of a whole body is sound: if 'funD' holds, the call returns, with a value and a world of which what was asked holds. No condition but that the table of types is the program's.
-/
import Derived.Test.YtgbilchfljlbeaaGreatDoorRegs4
import Derived.Scope
set_option linter.all false
namespace Go.Eng
open Go
section
variable {P:Program} {T:Nat→Option TI} {n:Nat}
def wr:Code→Nat→Prop
  | .region _ ops _,t=>∃ o∈ops.toList,o.dst=some t
  | .seq a b,t=>wr a t∨wr b t
  | .cond _ a b,t=>wr a t∨wr b t
  | .block _ c,t=>wr c t
  | .loop c,t=>wr c t
  | .scope c,t=>wr c t
  | _,_=>False
def He1 (n:Nat) (p:Nat→Prop) (a0:Act) (Kn:Env→World→Prop) (Kx:Nat→Env→World→Prop) (Kr:Env→World→Prop):Exit→Act→World→Prop
  | .normal,a,w=>Fr p a0 a∧∃ e,Rel n e a∧Kn e w
  | .exit id,a,w=>Fr p a0 a∧∃ e,Rel n e a∧Kx id e w
  | .ret,a,w=>∃ e,Rel n e a∧Kr e w
  | _,_,_=>False
theorem Hh1:∀ {c:Ce} {v:Value} {x:c.T},c.get v=some x→c.v x=v:=by
  intro c v x h
  cases c<;>cases v<;>simp only [Ce.get] at h<;>(try (cases h;done))
  case int.int k k' n=>
    cases hk:kEq k k' with
    | false=>rw [hk] at h;cases h
    | true=>rw [hk] at h;obtain rfl:=Ga6 hk;cases h;rfl
  case f64.float k b=>
    cases k
    · cases h
    · cases h;rfl
  all_goals (cases h;rfl)
theorem Gc2:∀ {cs:List Ce} {vs:List Value} {x:CsT cs},Eo2 cs vs=some x→csV cs x=vs
  | [],[],x,h=>rfl
  | [],v::vs,x,h=>by simp [Eo2] at h
  | c::cs,[],x,h=>by simp [Eo2] at h
  | c::cs,v::vs,x,h=>by
    simp only [Eo2] at h
    cases h1:c.get v with
    | none=>simp [h1] at h
    | some y=>
      cases h2:Eo2 cs vs with
      | none=>simp [h1,h2] at h
      | some r=>
        simp only [h1,h2] at h
        cases h
        show c.v y::csV cs r=v::vs
        rw [Hh1 h1,Gc2 h2]
theorem Hb0 {s:Sh} {v:Value} {x:s.T} (h:s.get v=some x):s.v x=v:=by
  cases s with
  | one k=>exact Hh1 h
  | agg cs=>
    have hg:(match Gu6 v with | some vs=>Eo2 cs vs | none=>none)=some x:=h
    cases ha:Gu6 v with
    | none=>rw [ha] at hg;cases hg
    | some vs=>
      rw [ha] at hg
      have h1:=Gc2 (x:=x) hg
      have h2:v = .agg vs.toArray:=by
        cases v<;>first | (cases ha;rfl) | (cases ha)
      show Value.agg (csV cs x).toArray=_
      rw [h1,h2]
theorem Fg6:∀ {W:List (Nat×Sh)} {e:Env} {s:Tup W},Cq9 W e=some s→∀ t v,Fn1 W s t=some v→e t=some v
  | [],e,s,h,t,v,ht=>by simp [Fn1] at ht
  | p::W,e,s,h,t,v,ht=>by
    simp only [Cq9] at h
    cases h0:e p.1 with
    | none=>simp [h0] at h
    | some u=>
      cases h1:p.2.get u with
      | none=>simp [h0,h1] at h
      | some x=>
        cases h2:Cq9 W e with
        | none=>simp [h0,h1,h2] at h
        | some r=>
          simp only [h0,h1,h2] at h
          cases h
          simp only [Fn1] at ht
          cases hb:Nat.beq t p.1 with
          | true=>
            rw [hb] at ht
            have:=Nat.eq_of_beq_eq_true hb
            subst this
            simp at ht
            rw [Hb0 h1] at ht
            rw [h0,ht]
          | false=>rw [hb] at ht;exact Fg6 h2 t v ht
theorem Ey9 {a b:Bool} (h:cond a b false=true):a=true∧b=true:=by cases a<;>simp_all
theorem Fd6 {D:List (Nat×Nat)} {ops:List Oper} (h:Fg4 D ops=true) (o:Oper) (ho:o∈ops) (t:Nat) (ht:o.dst=some t):inD D t=true:=by
  induction ops with
  | nil=>cases ho
  | cons o' os ih=>
    simp only [Fg4] at h
    obtain ⟨h1,h2⟩:=Ey9 h
    rcases List.mem_cons.1 ho with rfl | ho
    · rw [ht] at h1;exact h1
    · exact ih h2 ho
theorem Cc9 {D:List (Nat×Nat)} {c:Code} (h:Ca3 D c=true) (t:Nat) (hw:wr c t):inD D t=true:=by
  induction c with
  | region id ops d=>obtain ⟨o,ho,ht⟩:=hw;exact Fd6 h o ho t ht
  | seq a b iha ihb=>exact hw.elim (iha (Ey9 h).1) (ihb (Ey9 h).2)
  | cond x a b iha ihb=>exact hw.elim (iha (Ey9 h).1) (ihb (Ey9 h).2)
  | block id c ih=>exact ih h hw
  | loop c ih=>exact ih h hw
  | scope c ih=>exact ih h hw
  | _=>exact hw.elim
theorem Dg9 {W:List (Nat×Sh)} {D:List (Nat×Nat)} {e e':Env} {a a':Act} {s:Tup W} {p:Nat→Prop} (hr:Rel n e a) (hr':Rel n e' a') (hf:Fr p a a') (hp:∀ t,p t→inD D t=true) (hs:Cq9 W e'=some s) :
    Rel n (Fo3 W D e s) a':=by
  refine ⟨hr'.size,hr'.defers,fun t v h=>?_⟩
  unfold Fo3 at h
  cases h1:Fn1 W s t with
  | some u=>
    rw [h1] at h
    cases h
    exact hr'.vals t _ (Fg6 hs t _ h1)
  | none=>
    rw [h1] at h
    simp only at h
    cases hb:inD D t with
    | true=>rw [hb] at h;cases h
    | false=>
      rw [hb] at h
      have hnp : ¬ p t:=fun hh=>by rw [hp t hh] at hb;cases hb
      rw [hf t hnp]
      exact hr.vals t v h
theorem Fa2 {m:Option Hc4} {c:Code} {e:Env} {a:Act} {f:(Env→World→Prop)→Prop} {Kn:Env→World→Prop} (hr:Rel n e a) (h:Hd2 m c e f Kn) :
    ∃ K:Env→World→Prop,f K∧∀ e' a' w',Rel n e' a'→Fr (wr c) a a'→K e' w'→∃ e'',Rel n e'' a'∧Kn e'' w':=by
  unfold Hd2 at h
  split at h
  · exact ⟨Kn,h,fun e' a' w' hr' _ hk=>⟨e',hr',hk⟩⟩
  · rename_i W D
    obtain ⟨hD,h⟩:=cond_true h
    refine ⟨_,h,fun e' a' w' hr' hf hk=>?_⟩
    obtain ⟨s,hs,hk⟩:=Aa3 hk
    exact ⟨_,Dg9 hr hr' hf (Cc9 hD) hs,hk⟩
theorem Fi6 {e:Env} {a:Act} {c:Operand} {b:Bool} (hr:Rel n e a) (h:a.eval c = .bool b):Rel n (Hq6 e c b) a:=by
  cases c with
  | tmp t=>exact hr.upd_same h
  | _=>exact hr
theorem Fs7 {p:Nat→Prop} {a0:Act} {Kn:Env→World→Prop} {Kx:Nat→Env→World→Prop} {Kr:Env→World→Prop} (c:List PanicEntry) (a:Act) (w:World) : ¬ He1 n p a0 Kn Kx Kr (.panic c) a w:=fun h=>h
theorem Gp4 (hT:TOk P T) (hZ:Cm5 T) (hm:P.follows .mixedOrders=true) {an:An}:∀ (c:Code) (cur:Nat) (e:Env) (Kn:Env→World→Prop) (Kx:Nat→Env→World→Prop) (Kr:Env→World→Prop) (w:World) (a:Act),
    Rel n e a→Dl2 P T n an c cur e Kn Kx Kr w→c.wp P (He1 n (wr c) a Kn Kx Kr) a w:=by
  intro c
  induction c with
  | skip=>intro cur e Kn Kx Kr w a hr h;exact wp_skip ⟨Fr.refl _ _,e,hr,h⟩
  | region id ops draw=>
    intro cur e Kn Kx Kr w a hr h
    obtain ⟨K,h1,h2⟩:=Fa2 hr h
    exact Fo5 hT hZ hm hr h1 (p:=wr (.region id ops draw)) (fun o ho t ht=>⟨o,ho,ht⟩) Fs7
      (fun e' a' w' hr' hf hk=>⟨hf,h2 e' a' w' hr' hf hk⟩)
  | seq x y ihx ihy=>
    intro cur e Kn Kx Kr w a hr h
    refine wp_seq (wp_mono (ihx cur e _ Kx Kr w a hr h) fun ex a1 w1 hp=>?_)
    cases ex with
    | normal=>
      obtain ⟨hf,e1,hr1,hk⟩:=hp
      refine wp_mono (ihy cur e1 Kn Kx Kr w1 a1 hr1 hk) fun ex a2 w2 hp2=>?_
      cases ex with
      | normal=>obtain ⟨hf2,hh⟩:=hp2;exact ⟨(hf.mono (fun _ h => .inl h)).trans (hf2.mono (fun _ h => .inr h)),hh⟩
      | exit id=>obtain ⟨hf2,hh⟩:=hp2;exact ⟨(hf.mono (fun _ h => .inl h)).trans (hf2.mono (fun _ h => .inr h)),hh⟩
      | ret=>exact hp2
      | goto l=>exact hp2.elim
      | panic ch=>exact hp2.elim
      | outgrown=>exact hp2.elim
    | exit id=>obtain ⟨hf,hh⟩:=hp;exact ⟨hf.mono (fun _ h => .inl h),hh⟩
    | ret=>exact hp
    | goto l=>exact hp.elim
    | panic ch=>exact hp.elim
    | outgrown=>exact hp.elim
  | cond c x y ihx ihy=>
    intro cur e Kn Kx Kr w a hr h
    obtain ⟨K,h1,h2⟩:=Fa2 hr h
    obtain ⟨v,hv,h1⟩:=Ab3 h1
    have hval:=hr.ev c v hv
    have up:∀ (z:Code),(∀ t,wr z t→wr (.cond c x y) t)→∀ ex a1 w1,He1 n (wr z) a K Kx Kr ex a1 w1→He1 n (wr (.cond c x y)) a Kn Kx Kr ex a1 w1:=by
      intro z hz ex a1 w1 hp
      cases ex with
      | normal=>obtain ⟨hf,e1,hr1,hk⟩:=hp;exact ⟨hf.mono hz,h2 e1 a1 w1 hr1 (hf.mono hz) hk⟩
      | exit id=>obtain ⟨hf,hh⟩:=hp;exact ⟨hf.mono hz,hh⟩
      | ret=>exact hp
      | goto l=>exact hp.elim
      | panic ch=>exact hp.elim
      | outgrown=>exact hp.elim
    split at h1
    · rename_i t
      rcases At8 h1 with ⟨rfl,h1⟩ | ⟨rfl,h1⟩
      · exact wp_cond_true hval (wp_mono (ihx cur _ K Kx Kr w a (Fi6 hr hval) h1) (up x fun _ h => .inl h))
      · exact wp_cond_false hval (wp_mono (ihy cur _ K Kx Kr w a (Fi6 hr hval) h1) (up y fun _ h => .inr h))
    · exact h1.elim
  | block id c ih=>
    intro cur e Kn Kx Kr w a hr h
    obtain ⟨K,h1,h2⟩:=Fa2 hr h
    refine wp_block (wp_mono (ih id e K _ Kr w a hr h1) fun ex a1 w1 hp=>?_)
    cases ex with
    | normal=>obtain ⟨hf,e1,hr1,hk⟩:=hp;exact ⟨hf,h2 e1 a1 w1 hr1 hf hk⟩
    | exit j=>
      obtain ⟨hf,e1,hr1,hk⟩:=hp
      show (if j=id then _ else _)
      rcases At8 hk with ⟨hb,hk⟩ | ⟨hb,hk⟩
      · rw [if_pos (Nat.eq_of_beq_eq_true hb)];exact ⟨hf,h2 e1 a1 w1 hr1 hf hk⟩
      · rw [if_neg (fun he=>by subst he;simp at hb)];exact ⟨hf,e1,hr1,hk⟩
    | ret=>exact hp
    | goto l=>exact hp.elim
    | panic ch=>exact hp.elim
    | outgrown=>exact hp.elim
  | loop c ih=>
    intro cur e Kn Kx Kr w a hr h
    unfold Dl2 at h
    split at h
    · rename_i W D _
      obtain ⟨hD,h⟩:=cond_true h
      obtain ⟨s0,hs0,h⟩:=Aa3 h
      have key:=h (fun s w=>∀ a',Rel n (Fo3 W D e s) a'→Fr (wr c) a a'→∀ (b:Frame) (k:List Item) (cs:List Frame),
          ∃ ex a1 w1,He1 n (wr c) a Kn Kx Kr ex a1 w1∧Arrives P (lone (b.at a' (.code c :: .inLoop c::k)) cs w) b k cs ex a1 w1) (by
        intro s w' hbody a' hr' hf' b k cs
        obtain ⟨ex,a1,w1,hp,harr⟩:=ih cur (Fo3 W D e s) _ Kx Kr w' a' hr' hbody b (.inLoop c::k) cs
        cases ex with
        | normal=>
          obtain ⟨hf1,e1,hr1,hk⟩:=hp
          obtain ⟨s1,hs1,hk⟩:=Aa3 hk
          have hfr:=hf'.trans hf1
          obtain ⟨ex2,a2,w2,hp2,harr2⟩:=hk a1 (Dg9 hr hr1 hfr (Cc9 hD) hs1) hfr b k cs
          exact ⟨ex2,a2,w2,hp2,.of_steps (Steps.trans harr (.one step_inLoop)) harr2⟩
        | exit id=>
          obtain ⟨hf1,hh⟩:=hp
          exact ⟨.exit id,a1,w1,⟨hf'.trans hf1,hh⟩,.pass (x := .inLoop c) rfl (fun _ _ => .inl (by simp)) harr⟩
        | ret=>exact ⟨.ret,a1,w1,hp,.pass (x := .inLoop c) rfl (fun _ _ => .inl (by simp)) harr⟩
        | goto l=>exact hp.elim
        | panic ch=>exact hp.elim
        | outgrown=>exact hp.elim)
      intro b k cs
      obtain ⟨ex,a1,w1,hp,harr⟩:=key a (Dg9 hr hr (Fr.refl (wr c) _) (Cc9 hD) hs0) (Fr.refl _ _) b k cs
      exact ⟨ex,a1,w1,hp,.of_steps (.one step_loop) harr⟩
    · exact h.elim
  | exit id=>intro cur e Kn Kx Kr w a hr h;exact wp_exit ⟨Fr.refl _ _,e,hr,h⟩
  | ret=>intro cur e Kn Kx Kr w a hr h;exact wp_ret ⟨e,hr,h⟩
  | rangeFunc f ps as b _ _=>intro cur e Kn Kx Kr w a hr h;exact h.elim
  | scope c ih=>
    intro cur e Kn Kx Kr w a hr h
    refine wp_scope_straight (wp_mono (ih cur e Kn Kx Kr w a hr h) fun ex a1 w1 hp=>?_)
    cases ex with
    | normal=>exact hp
    | exit id=>exact hp
    | ret=>exact hp
    | goto l=>exact hp.elim
    | panic ch=>exact hp.elim
    | outgrown=>exact hp.elim
  | label l=>intro cur e Kn Kx Kr w a hr h;exact wp_label ⟨Fr.refl _ _,e,hr,h⟩
  | goto l=>intro cur e Kn Kx Kr w a hr h;exact h.elim
  | refuse y=>intro cur e Kn Kx Kr w a hr h;exact h.elim
theorem Ex0 (hT:TOk P T) (hZ:Cm5 T) {e:Env} {a:Act} {w:World} (hr:Rel n e a):∀ {rs:List ResultVar} {K:List Value→Prop},Hc8 T rs e w K →
    ∃ vs:List Value,(rs.mapM fun r=>(match r with | .tmp t=>pure (a.tmps.getD t undef) | .cell x t=>do loadVar t (← asAddr (a.tmps.getD x undef)):Sem Value)).run P w = .ok vs w∧K vs
  | [],K,h=>⟨[],rfl,h⟩
  | .tmp t::rs,K,h=>by
    obtain ⟨v,hv,h⟩:=Aa3 h
    obtain ⟨vs,hrun,hk⟩:=Ex0 hT hZ hr h
    refine ⟨v::vs,?_,hk⟩
    simp only [List.mapM_cons,Sem.run_bind,Sem.run_pure,Result.andThen_ok,hrun,hr.vals t v hv]
  | .cell x t::rs,K,h=>by
    obtain ⟨p,hp,h⟩:=Aa3 h
    obtain ⟨ti,hti,h⟩:=Aa3 h
    obtain ⟨ad,v,rfl,hl,h⟩:=Ej9 (hT _ _ hti) (hZ _ _ hti) h
    obtain ⟨vs,hrun,hk⟩:=Ex0 hT hZ hr h
    refine ⟨v::vs,?_,hk⟩
    have e1:asAddr (a.tmps.getD x undef)=pure ad:=by rw [hr.vals x _ hp];rfl
    simp only [List.mapM_cons,e1,Sem.run_bind,Sem.run_pure,Result.andThen_ok,hl,hrun]
theorem Fp8 (vs:List Value):(if h:vs.toArray.size=1 then vs.toArray[0] else .tuple vs.toArray)=Fr8 vs:=by
  match vs with
  | []=>rfl
  | [v]=>rfl
  | v::u::l=>simp [Fr8]
theorem Ds8 (hT:TOk P T) (hZ:Cm5 T) {fn:Func} {e:Env} {a:Act} {w:World} (hr:Rel n e a) {K:Value→World→Prop} (h:Hc8 T fn.results.toList e w fun vs=>K (Fr8 vs) w) :
    ∃ v,(results fn a.tmps).run P w = .ok v w∧K v w:=by
  obtain ⟨vs,hrun,hk⟩:=Ex0 hT hZ hr h
  refine ⟨Fr8 vs,?_,hk⟩
  unfold results
  rw [Array.mapM_eq_mapM_toList]
  simp only [Sem.run_bind,Sem.run_map,Sem.run_pure]
  refine (congrArg (fun r:Result (List Value)=>(r.andThen fun a w'=>Result.ok a.toArray w').andThen fun a w'=>Result.ok (if h:a.size=1 then a[0] else Value.tuple a) w') hrun).trans ?_
  show Result.ok _ w=_
  rw [Fp8]
theorem Gb1 {args:Array Value} {m:Nat} (h:args.size≤m):Rel m (Gv0 args.toList) { tmps:=args++Array.replicate (m-args.size) undef,defers:=[] }:=by
  refine ⟨by simp;omega,rfl,fun t v hv=>?_⟩
  unfold Gv0 at hv
  rw [Ay7] at hv
  by_cases ht:t<args.size
  · have:args.toList[t]?=some args[t]:=by simp [ht]
    rw [this] at hv
    cases hv
    simp [Array.getElem?_append,ht]
  · have:args.toList[t]?=none:=by simp;omega
    rw [this] at hv
    cases hv
    simp [Array.getElem?_append,ht]
    by_cases h2:t-args.size<m-args.size<;>simp [h2]
theorem Fm7 (hT:TOk P T) (hZ:Cm5 T) (hm:P.follows .mixedOrders=true) {f:FuncId} {fn:Func} {an:An} {args:Array Value} {w:World} {K:Value→World→Prop} (hf:P.funcs[f]?=some fn)
    (h:Hk5 P T fn an args.toList w K):Calls P f args w fun e w'=>∃ v,e = .returned v∧K v w':=by
  unfold Hk5 at h
  split at h
  · rename_i c hc
    obtain ⟨hb,h⟩:=cond_true h
    have hle:args.size≤fn.ntmps:=by simpa using Nat.le_of_ble_eq_true hb
    refine calls_of_wp hf hc (wp_mono (Gp4 hT hZ hm c 0 _ _ _ _ w _ (Gb1 hle) h) fun ex a1 w1 hp=>?_)
    cases ex with
    | normal=>
      obtain ⟨_,e1,hr1,hk⟩:=hp
      obtain ⟨v,hv,hk⟩:=Ds8 (P:=P) hT hZ hr1 hk
      exact ⟨hr1.defers,v,hv,v,rfl,hk⟩
    | exit id=>obtain ⟨_,e1,hr1,hk⟩:=hp;exact hk.elim
    | ret=>
      obtain ⟨e1,hr1,hk⟩:=hp
      obtain ⟨v,hv,hk⟩:=Ds8 (P:=P) hT hZ hr1 hk
      exact ⟨hr1.defers,v,hv,v,rfl,hk⟩
    | goto l=>exact hp.elim
    | panic ch=>exact hp.elim
    | outgrown=>exact hp.elim
  · exact h.elim
theorem Ey6 (hT : TOk P T) (hZ : Cm5 T) (hm : P.follows .mixedOrders = true) {f : FuncId} {fn : Func} {an : An} {args : Array Value} {w : World} {K : Value → World → Prop} (hf : P.funcs[f]? = some fn) (hn : (fn.name == "runtime.NumGoroutine") = false)
    (h:Hk5 P T fn an args.toList w K):Aa1 P f args w K:=by
  have hc:=Fm7 hT hZ hm hf h
  have hb:fn.body.isNone=false:=by
    unfold Hk5 at h
    split at h
    · rename_i c hc;rw [hc];rfl
    · exact h.elim
  unfold Aa1 callFunc
  simp only [Sem.run_bind,run_program,Result.andThen_ok,hf,hn,hb,Bool.false_eq_true,if_false,Sem.run_pure]
  exact hc
end
end Go.Eng
/-
  How the table of types of a program is laid beside the definitional reading; no condition.
-/
namespace Go.Eng
open Go
def tdB:TD→TypeDesc→Bool
  | .bool,.bool=>true
  | .int k,.int k'=>kEq k k'
  | .float .f64,.float .f64=>true
  | .float .f32,.float .f32=>true
  | .string,.string=>true
  | .ptr e,.pointer e'=>Nat.beq e e'
  | .slice e,.slice e'=>Nat.beq e e'
  | .array n e,.array n' e'=>cond (Nat.beq n n') (Nat.beq e e') false
  | .struct fs,.struct fields=>fs==fields.toList.map fun f=>(f.type,f.offset)
  | .tuple ts,.tuple es=>ts==es.toList
  | .func,.func _ _ _=>true
  | .other,d=>match d with | .struct _=>false | .array _ _=>false | _=>true
  | _,_=>false
theorem Hf7 {td:TD} {d:TypeDesc} (h:tdB td d=true):Hr1 td d:=by
  cases td<;>cases d<;>simp only [tdB] at h<;>(try (cases h;done))<;>(try exact True.intro)
  case int.int k k'=>exact Ga6 h
  case float.float k k'=>cases k<;>cases k'<;>first | rfl | (cases h)
  case ptr.pointer=>exact Nat.eq_of_beq_eq_true h
  case slice.slice=>exact Nat.eq_of_beq_eq_true h
  case array.array=>obtain ⟨h1,h2⟩:=Ey9 h;exact ⟨Nat.eq_of_beq_eq_true h1,Nat.eq_of_beq_eq_true h2⟩
  case struct.struct=>exact eq_of_beq h
  case tuple.tuple=>exact eq_of_beq h
theorem Ae1 {P:Program} {t:Nat} {ti:TI} {i:TypeInfo} {d:TypeDesc} (h1:P.info? t=some i) (h2:i.size=ti.size) (h3:i.bytes=ti.bytes) (h4:i.zero=some ti.zero) (h5:P.underlying t=some d) (h6:tdB ti.d d=true):TIOk P t ti:=
  ⟨⟨i,h1,h2,h3,h4⟩,⟨d,h5,Hf7 h6⟩⟩
def Gp9 (P:Program):List (Nat×TI)→Prop
  | []=>True
  | p::l=>TIOk P p.1 p.2∧Gp9 P l
theorem Cz3 {P:Program}:∀ {l:List (Nat×TI)},Gp9 P l→TOk P (Fd8 l)
  | [],_,t,ti,h=>by simp [Fd8] at h
  | p::l,hr,t,ti,h=>by
    simp only [Fd8] at h
    cases hb:Nat.beq p.1 t with
    | true=>
      rw [hb] at h
      have:=Nat.eq_of_beq_eq_true hb
      subst this
      cases h
      exact hr.1
    | false=>rw [hb] at h;exact Cz3 hr.2 t ti h
def Gq9:List (Nat×TI)→Bool
  | []=>true
  | p::l=>cond (cond p.2.d.isAgg (Nat.beq (Ai4 p.2.zero).length p.2.size) true) (Gq9 l) false
theorem Gm9 {l:List (Nat×TI)} (h:Gq9 l=true):Cm5 (Fd8 l):=by
  induction l with
  | nil=>intro t ti h;simp [Fd8] at h
  | cons p l ih=>
    intro t ti hl ha
    obtain ⟨h1,h2⟩:=Ey9 h
    simp only [Fd8] at hl
    cases hb:Nat.beq p.1 t with
    | true=>
      rw [hb] at hl
      cases hl
      rw [ha] at h1
      exact Nat.eq_of_beq_eq_true h1
    | false=>rw [hb] at hl;exact ih h2 t ti hl ha
theorem Gt3 {P : Program} {f : FuncId} {fn : Func} {g : Array Value → Sem Value} {args : Array Value} {v : Value} {w : World} {K : Value → World → Prop} (hf : P.funcs[f]? = some fn) (hn : (fn.name == "runtime.NumGoroutine") = false)
    (hb:fn.body.isNone=true) (h1:(Extern.findNext fn).isNone=true) (h2:Extern.find fn=some g) (hg:g args=pure v) (hk:K v w):Aa1 P f args w K:=by
  unfold Aa1 callFunc
  have h1':Extern.findNext fn=none:=by
    cases hh:Extern.findNext fn with
    | none=>rfl
    | some x=>rw [hh] at h1;cases h1
  simp only [Sem.run_bind,run_program,Result.andThen_ok,hf,hn,hb,Bool.false_eq_true,if_false,if_true,run_mark,h1',h2,hg,Sem.run_pure]
  exact hk
abbrev cI_ (w:World) (p:Addr) (K:Int→Prop):Prop:=∃ n,w.cell? p=some (.int .i64 n)∧K n
abbrev cU_ (w:World) (p:Addr) (K:Int→Prop):Prop:=∃ n,w.cell? p=some (.int .u64 n)∧K n
abbrev cB_ (w:World) (p:Addr) (K:Bool→Prop):Prop:=∃ n,w.cell? p=some (.bool n)∧K n
abbrev cF_ (w:World) (p:Addr) (K:Nat→Prop):Prop:=∃ n,w.cell? p=some (.float .f64 n)∧K n
abbrev cW_ (w:World) (p:Addr) (K:Int→Prop):Prop:=∃ n,w.cell? p=some (.int .u32 n)∧K n
abbrev cS_ (w:World) (p:Addr) (K:Option Addr→Nat→Nat→Prop):Prop:=∃ a l c,w.cell? p=some (.slice a l c)∧K a l c
abbrev vS_ (v:Value) (K:Option Addr→Nat→Nat→Prop):Prop:=∃ a l c,v=(.slice a l c)∧K a l c
abbrev vB_ (v:Value) (K:Bool→Prop):Prop:=∃ b,v=(.bool b)∧K b
abbrev KV:=Value→World→Prop
abbrev OA:=Option Addr
end Go.Eng
