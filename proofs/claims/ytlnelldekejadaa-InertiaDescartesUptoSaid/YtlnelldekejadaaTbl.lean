/-
  The definitional reading of a whole body is sound: if 'funD' holds, the call returns, with a value and a world of which what was asked holds. No condition but that the table of types is the program's.
-/
import Derived.Test.YtlnelldekejadaaRegs4
import Derived.Scope
set_option linter.all false
namespace Go.Eng
open Go
section
variable {P:Program} {T:Nat→Option TI} {n:Nat}
def wr:Code→Nat→Prop
  | .region _ ops _,t=>∃ o∈ops.toList,o.dst=some t
  | .seq a b,t=>wr a t∨wr b t
  | .cond _ a b,t=>wr a t∨wr b t
  | .block _ c,t=>wr c t
  | .loop c,t=>wr c t
  | .scope c,t=>wr c t
  | _,_=>False
def Post (n:Nat) (p:Nat→Prop) (a0:Act) (Kn:Env→World→Prop) (Kx:Nat→Env→World→Prop) (Kr:Env→World→Prop):Exit→Act→World→Prop
  | .normal,a,w=>Fr p a0 a∧∃ e,Rel n e a∧Kn e w
  | .exit id,a,w=>Fr p a0 a∧∃ e,Rel n e a∧Kx id e w
  | .ret,a,w=>∃ e,Rel n e a∧Kr e w
  | _,_,_=>False
theorem get_v:∀ {c:Ce} {v:Value} {x:c.T},c.get v=some x→c.v x=v:=by
  intro c v x h
  cases c<;>cases v<;>simp only [Ce.get] at h<;>(try (cases h;done))
  case int.int k k' n=>
    cases hk:kEq k k' with
    | false=>rw [hk] at h;cases h
    | true=>rw [hk] at h;obtain rfl:=kEq_eq hk;cases h;rfl
  case f64.float k b=>
    cases k
    · cases h
    · cases h;rfl
  all_goals (cases h;rfl)
theorem csGet_v:∀ {cs:List Ce} {vs:List Value} {x:CsT cs},csGet cs vs=some x→csV cs x=vs
  | [],[],x,h=>rfl
  | [],v::vs,x,h=>by simp [csGet] at h
  | c::cs,[],x,h=>by simp [csGet] at h
  | c::cs,v::vs,x,h=>by
    simp only [csGet] at h
    cases h1:c.get v with
    | none=>simp [h1] at h
    | some y=>
      cases h2:csGet cs vs with
      | none=>simp [h1,h2] at h
      | some r=>
        simp only [h1,h2] at h
        cases h
        show c.v y::csV cs r=v::vs
        rw [get_v h1,csGet_v h2]
theorem shGet_v {s:Sh} {v:Value} {x:s.T} (h:s.get v=some x):s.v x=v:=by
  cases s with
  | one k=>exact get_v h
  | agg cs=>
    have hg:(match aggOf v with | some vs=>csGet cs vs | none=>none)=some x:=h
    cases ha:aggOf v with
    | none=>rw [ha] at hg;cases hg
    | some vs=>
      rw [ha] at hg
      have h1:=csGet_v (x:=x) hg
      have h2:v = .agg vs.toArray:=by
        cases v<;>first | (cases ha;rfl) | (cases ha)
      show Value.agg (csV cs x).toArray=_
      rw [h1,h2]
theorem tup_spec:∀ {W:List (Nat×Sh)} {e:Env} {s:Tup W},tupGet W e=some s→∀ t v,tupAt W s t=some v→e t=some v
  | [],e,s,h,t,v,ht=>by simp [tupAt] at ht
  | p::W,e,s,h,t,v,ht=>by
    simp only [tupGet] at h
    cases h0:e p.1 with
    | none=>simp [h0] at h
    | some u=>
      cases h1:p.2.get u with
      | none=>simp [h0,h1] at h
      | some x=>
        cases h2:tupGet W e with
        | none=>simp [h0,h1,h2] at h
        | some r=>
          simp only [h0,h1,h2] at h
          cases h
          simp only [tupAt] at ht
          cases hb:Nat.beq t p.1 with
          | true=>
            rw [hb] at ht
            have:=Nat.eq_of_beq_eq_true hb
            subst this
            simp at ht
            rw [shGet_v h1] at ht
            rw [h0,ht]
          | false=>rw [hb] at ht;exact tup_spec h2 t v ht
theorem cond3 {a b:Bool} (h:cond a b false=true):a=true∧b=true:=by cases a<;>simp_all
theorem dstsIn_spec {D:List (Nat×Nat)} {ops:List Oper} (h:dstsIn D ops=true) (o:Oper) (ho:o∈ops) (t:Nat) (ht:o.dst=some t):inD D t=true:=by
  induction ops with
  | nil=>cases ho
  | cons o' os ih=>
    simp only [dstsIn] at h
    obtain ⟨h1,h2⟩:=cond3 h
    rcases List.mem_cons.1 ho with rfl | ho
    · rw [ht] at h1;exact h1
    · exact ih h2 ho
theorem codeIn_spec {D:List (Nat×Nat)} {c:Code} (h:codeIn D c=true) (t:Nat) (hw:wr c t):inD D t=true:=by
  induction c with
  | region id ops d=>obtain ⟨o,ho,ht⟩:=hw;exact dstsIn_spec h o ho t ht
  | seq a b iha ihb=>exact hw.elim (iha (cond3 h).1) (ihb (cond3 h).2)
  | cond x a b iha ihb=>exact hw.elim (iha (cond3 h).1) (ihb (cond3 h).2)
  | block id c ih=>exact ih h hw
  | loop c ih=>exact ih h hw
  | scope c ih=>exact ih h hw
  | _=>exact hw.elim
theorem canon_rel {W:List (Nat×Sh)} {D:List (Nat×Nat)} {e e':Env} {a a':Act} {s:Tup W} {p:Nat→Prop} (hr:Rel n e a) (hr':Rel n e' a') (hf:Fr p a a') (hp:∀ t,p t→inD D t=true) (hs:tupGet W e'=some s) :
    Rel n (canon W D e s) a':=by
  refine ⟨hr'.size,hr'.defers,fun t v h=>?_⟩
  unfold canon at h
  cases h1:tupAt W s t with
  | some u=>
    rw [h1] at h
    cases h
    exact hr'.vals t _ (tup_spec hs t _ h1)
  | none=>
    rw [h1] at h
    simp only at h
    cases hb:inD D t with
    | true=>rw [hb] at h;cases h
    | false=>
      rw [hb] at h
      have hnp : ¬ p t:=fun hh=>by rw [hp t hh] at hb;cases hb
      rw [hf t hnp]
      exact hr.vals t v h
theorem cutD_ok {m:Option Mark} {c:Code} {e:Env} {a:Act} {f:(Env→World→Prop)→Prop} {Kn:Env→World→Prop} (hr:Rel n e a) (h:cutD m c e f Kn) :
    ∃ K:Env→World→Prop,f K∧∀ e' a' w',Rel n e' a'→Fr (wr c) a a'→K e' w'→∃ e'',Rel n e'' a'∧Kn e'' w':=by
  unfold cutD at h
  split at h
  · exact ⟨Kn,h,fun e' a' w' hr' _ hk=>⟨e',hr',hk⟩⟩
  · rename_i W D
    obtain ⟨hD,h⟩:=cond_true h
    refine ⟨_,h,fun e' a' w' hr' hf hk=>?_⟩
    obtain ⟨s,hs,hk⟩:=bindL_some hk
    exact ⟨_,canon_rel hr hr' hf (codeIn_spec hD) hs,hk⟩
theorem updO_rel {e:Env} {a:Act} {c:Operand} {b:Bool} (hr:Rel n e a) (h:a.eval c = .bool b):Rel n (updO e c b) a:=by
  cases c with
  | tmp t=>exact hr.upd_same h
  | _=>exact hr
theorem post_panic {p:Nat→Prop} {a0:Act} {Kn:Env→World→Prop} {Kx:Nat→Env→World→Prop} {Kr:Env→World→Prop} (c:List PanicEntry) (a:Act) (w:World) : ¬ Post n p a0 Kn Kx Kr (.panic c) a w:=fun h=>h
theorem codeD_ok (hT:TOk P T) (hZ:TSize T) (hm:P.follows .mixedOrders=true) {an:An}:∀ (c:Code) (cur:Nat) (e:Env) (Kn:Env→World→Prop) (Kx:Nat→Env→World→Prop) (Kr:Env→World→Prop) (w:World) (a:Act),
    Rel n e a→codeD P T n an c cur e Kn Kx Kr w→c.wp P (Post n (wr c) a Kn Kx Kr) a w:=by
  intro c
  induction c with
  | skip=>intro cur e Kn Kx Kr w a hr h;exact wp_skip ⟨Fr.refl _ _,e,hr,h⟩
  | region id ops draw=>
    intro cur e Kn Kx Kr w a hr h
    obtain ⟨K,h1,h2⟩:=cutD_ok hr h
    exact regionD_ok hT hZ hm hr h1 (p:=wr (.region id ops draw)) (fun o ho t ht=>⟨o,ho,ht⟩) post_panic
      (fun e' a' w' hr' hf hk=>⟨hf,h2 e' a' w' hr' hf hk⟩)
  | seq x y ihx ihy=>
    intro cur e Kn Kx Kr w a hr h
    refine wp_seq (wp_mono (ihx cur e _ Kx Kr w a hr h) fun ex a1 w1 hp=>?_)
    cases ex with
    | normal=>
      obtain ⟨hf,e1,hr1,hk⟩:=hp
      refine wp_mono (ihy cur e1 Kn Kx Kr w1 a1 hr1 hk) fun ex a2 w2 hp2=>?_
      cases ex with
      | normal=>obtain ⟨hf2,hh⟩:=hp2;exact ⟨(hf.mono (fun _ h => .inl h)).trans (hf2.mono (fun _ h => .inr h)),hh⟩
      | exit id=>obtain ⟨hf2,hh⟩:=hp2;exact ⟨(hf.mono (fun _ h => .inl h)).trans (hf2.mono (fun _ h => .inr h)),hh⟩
      | ret=>exact hp2
      | goto l=>exact hp2.elim
      | panic ch=>exact hp2.elim
      | outgrown=>exact hp2.elim
    | exit id=>obtain ⟨hf,hh⟩:=hp;exact ⟨hf.mono (fun _ h => .inl h),hh⟩
    | ret=>exact hp
    | goto l=>exact hp.elim
    | panic ch=>exact hp.elim
    | outgrown=>exact hp.elim
  | cond c x y ihx ihy=>
    intro cur e Kn Kx Kr w a hr h
    obtain ⟨K,h1,h2⟩:=cutD_ok hr h
    obtain ⟨v,hv,h1⟩:=bindV_some h1
    have hval:=hr.ev c v hv
    have up:∀ (z:Code),(∀ t,wr z t→wr (.cond c x y) t)→∀ ex a1 w1,Post n (wr z) a K Kx Kr ex a1 w1→Post n (wr (.cond c x y)) a Kn Kx Kr ex a1 w1:=by
      intro z hz ex a1 w1 hp
      cases ex with
      | normal=>obtain ⟨hf,e1,hr1,hk⟩:=hp;exact ⟨hf.mono hz,h2 e1 a1 w1 hr1 (hf.mono hz) hk⟩
      | exit id=>obtain ⟨hf,hh⟩:=hp;exact ⟨hf.mono hz,hh⟩
      | ret=>exact hp
      | goto l=>exact hp.elim
      | panic ch=>exact hp.elim
      | outgrown=>exact hp.elim
    split at h1
    · rename_i t
      rcases cond_or h1 with ⟨rfl,h1⟩ | ⟨rfl,h1⟩
      · exact wp_cond_true hval (wp_mono (ihx cur _ K Kx Kr w a (updO_rel hr hval) h1) (up x fun _ h => .inl h))
      · exact wp_cond_false hval (wp_mono (ihy cur _ K Kx Kr w a (updO_rel hr hval) h1) (up y fun _ h => .inr h))
    · exact h1.elim
  | block id c ih=>
    intro cur e Kn Kx Kr w a hr h
    obtain ⟨K,h1,h2⟩:=cutD_ok hr h
    refine wp_block (wp_mono (ih id e K _ Kr w a hr h1) fun ex a1 w1 hp=>?_)
    cases ex with
    | normal=>obtain ⟨hf,e1,hr1,hk⟩:=hp;exact ⟨hf,h2 e1 a1 w1 hr1 hf hk⟩
    | exit j=>
      obtain ⟨hf,e1,hr1,hk⟩:=hp
      show (if j=id then _ else _)
      rcases cond_or hk with ⟨hb,hk⟩ | ⟨hb,hk⟩
      · rw [if_pos (Nat.eq_of_beq_eq_true hb)];exact ⟨hf,h2 e1 a1 w1 hr1 hf hk⟩
      · rw [if_neg (fun he=>by subst he;simp at hb)];exact ⟨hf,e1,hr1,hk⟩
    | ret=>exact hp
    | goto l=>exact hp.elim
    | panic ch=>exact hp.elim
    | outgrown=>exact hp.elim
  | loop c ih=>
    intro cur e Kn Kx Kr w a hr h
    unfold codeD at h
    split at h
    · rename_i W D _
      obtain ⟨hD,h⟩:=cond_true h
      obtain ⟨s0,hs0,h⟩:=bindL_some h
      have key:=h (fun s w=>∀ a',Rel n (canon W D e s) a'→Fr (wr c) a a'→∀ (b:Frame) (k:List Item) (cs:List Frame),
          ∃ ex a1 w1,Post n (wr c) a Kn Kx Kr ex a1 w1∧Arrives P (lone (b.at a' (.code c :: .inLoop c::k)) cs w) b k cs ex a1 w1) (by
        intro s w' hbody a' hr' hf' b k cs
        obtain ⟨ex,a1,w1,hp,harr⟩:=ih cur (canon W D e s) _ Kx Kr w' a' hr' hbody b (.inLoop c::k) cs
        cases ex with
        | normal=>
          obtain ⟨hf1,e1,hr1,hk⟩:=hp
          obtain ⟨s1,hs1,hk⟩:=bindL_some hk
          have hfr:=hf'.trans hf1
          obtain ⟨ex2,a2,w2,hp2,harr2⟩:=hk a1 (canon_rel hr hr1 hfr (codeIn_spec hD) hs1) hfr b k cs
          exact ⟨ex2,a2,w2,hp2,.of_steps (Steps.trans harr (.one step_inLoop)) harr2⟩
        | exit id=>
          obtain ⟨hf1,hh⟩:=hp
          exact ⟨.exit id,a1,w1,⟨hf'.trans hf1,hh⟩,.pass (x := .inLoop c) rfl (fun _ _ => .inl (by simp)) harr⟩
        | ret=>exact ⟨.ret,a1,w1,hp,.pass (x := .inLoop c) rfl (fun _ _ => .inl (by simp)) harr⟩
        | goto l=>exact hp.elim
        | panic ch=>exact hp.elim
        | outgrown=>exact hp.elim)
      intro b k cs
      obtain ⟨ex,a1,w1,hp,harr⟩:=key a (canon_rel hr hr (Fr.refl (wr c) _) (codeIn_spec hD) hs0) (Fr.refl _ _) b k cs
      exact ⟨ex,a1,w1,hp,.of_steps (.one step_loop) harr⟩
    · exact h.elim
  | exit id=>intro cur e Kn Kx Kr w a hr h;exact wp_exit ⟨Fr.refl _ _,e,hr,h⟩
  | ret=>intro cur e Kn Kx Kr w a hr h;exact wp_ret ⟨e,hr,h⟩
  | rangeFunc f ps as b _ _=>intro cur e Kn Kx Kr w a hr h;exact h.elim
  | scope c ih=>
    intro cur e Kn Kx Kr w a hr h
    refine wp_scope_straight (wp_mono (ih cur e Kn Kx Kr w a hr h) fun ex a1 w1 hp=>?_)
    cases ex with
    | normal=>exact hp
    | exit id=>exact hp
    | ret=>exact hp
    | goto l=>exact hp.elim
    | panic ch=>exact hp.elim
    | outgrown=>exact hp.elim
  | label l=>intro cur e Kn Kx Kr w a hr h;exact wp_label ⟨Fr.refl _ _,e,hr,h⟩
  | goto l=>intro cur e Kn Kx Kr w a hr h;exact h.elim
  | refuse y=>intro cur e Kn Kx Kr w a hr h;exact h.elim
theorem resD_ok (hT:TOk P T) (hZ:TSize T) {e:Env} {a:Act} {w:World} (hr:Rel n e a):∀ {rs:List ResultVar} {K:List Value→Prop},resD T rs e w K →
    ∃ vs:List Value,(rs.mapM fun r=>(match r with | .tmp t=>pure (a.tmps.getD t undef) | .cell x t=>do loadVar t (← asAddr (a.tmps.getD x undef)):Sem Value)).run P w = .ok vs w∧K vs
  | [],K,h=>⟨[],rfl,h⟩
  | .tmp t::rs,K,h=>by
    obtain ⟨v,hv,h⟩:=bindL_some h
    obtain ⟨vs,hrun,hk⟩:=resD_ok hT hZ hr h
    refine ⟨v::vs,?_,hk⟩
    simp only [List.mapM_cons,Sem.run_bind,Sem.run_pure,Result.andThen_ok,hrun,hr.vals t v hv]
  | .cell x t::rs,K,h=>by
    obtain ⟨p,hp,h⟩:=bindL_some h
    obtain ⟨ti,hti,h⟩:=bindL_some h
    obtain ⟨ad,v,rfl,hl,h⟩:=run_loadD (hT _ _ hti) (hZ _ _ hti) h
    obtain ⟨vs,hrun,hk⟩:=resD_ok hT hZ hr h
    refine ⟨v::vs,?_,hk⟩
    have e1:asAddr (a.tmps.getD x undef)=pure ad:=by rw [hr.vals x _ hp];rfl
    simp only [List.mapM_cons,e1,Sem.run_bind,Sem.run_pure,Result.andThen_ok,hl,hrun]
theorem oneOf_spec (vs:List Value):(if h:vs.toArray.size=1 then vs.toArray[0] else .tuple vs.toArray)=oneOf vs:=by
  match vs with
  | []=>rfl
  | [v]=>rfl
  | v::u::l=>simp [oneOf]
theorem results_ok (hT:TOk P T) (hZ:TSize T) {fn:Func} {e:Env} {a:Act} {w:World} (hr:Rel n e a) {K:Value→World→Prop} (h:resD T fn.results.toList e w fun vs=>K (oneOf vs) w) :
    ∃ v,(results fn a.tmps).run P w = .ok v w∧K v w:=by
  obtain ⟨vs,hrun,hk⟩:=resD_ok hT hZ hr h
  refine ⟨oneOf vs,?_,hk⟩
  unfold results
  rw [Array.mapM_eq_mapM_toList]
  simp only [Sem.run_bind,Sem.run_map,Sem.run_pure]
  refine (congrArg (fun r:Result (List Value)=>(r.andThen fun a w'=>Result.ok a.toArray w').andThen fun a w'=>Result.ok (if h:a.size=1 then a[0] else Value.tuple a) w') hrun).trans ?_
  show Result.ok _ w=_
  rw [oneOf_spec]
theorem envOf_rel {args:Array Value} {m:Nat} (h:args.size≤m):Rel m (envOf args.toList) { tmps:=args++Array.replicate (m-args.size) undef,defers:=[] }:=by
  refine ⟨by simp;omega,rfl,fun t v hv=>?_⟩
  unfold envOf at hv
  rw [nth_eq] at hv
  by_cases ht:t<args.size
  · have:args.toList[t]?=some args[t]:=by simp [ht]
    rw [this] at hv
    cases hv
    simp [Array.getElem?_append,ht]
  · have:args.toList[t]?=none:=by simp;omega
    rw [this] at hv
    cases hv
    simp [Array.getElem?_append,ht]
    by_cases h2:t-args.size<m-args.size<;>simp [h2]
theorem funD_calls (hT:TOk P T) (hZ:TSize T) (hm:P.follows .mixedOrders=true) {f:FuncId} {fn:Func} {an:An} {args:Array Value} {w:World} {K:Value→World→Prop} (hf:P.funcs[f]?=some fn)
    (h:funD P T fn an args.toList w K):Calls P f args w fun e w'=>∃ v,e = .returned v∧K v w':=by
  unfold funD at h
  split at h
  · rename_i c hc
    obtain ⟨hb,h⟩:=cond_true h
    have hle:args.size≤fn.ntmps:=by simpa using Nat.le_of_ble_eq_true hb
    refine calls_of_wp hf hc (wp_mono (codeD_ok hT hZ hm c 0 _ _ _ _ w _ (envOf_rel hle) h) fun ex a1 w1 hp=>?_)
    cases ex with
    | normal=>
      obtain ⟨_,e1,hr1,hk⟩:=hp
      obtain ⟨v,hv,hk⟩:=results_ok (P:=P) hT hZ hr1 hk
      exact ⟨hr1.defers,v,hv,v,rfl,hk⟩
    | exit id=>obtain ⟨_,e1,hr1,hk⟩:=hp;exact hk.elim
    | ret=>
      obtain ⟨e1,hr1,hk⟩:=hp
      obtain ⟨v,hv,hk⟩:=results_ok (P:=P) hT hZ hr1 hk
      exact ⟨hr1.defers,v,hv,v,rfl,hk⟩
    | goto l=>exact hp.elim
    | panic ch=>exact hp.elim
    | outgrown=>exact hp.elim
  · exact h.elim
theorem funD_callsX (hT : TOk P T) (hZ : TSize T) (hm : P.follows .mixedOrders = true) {f : FuncId} {fn : Func} {an : An} {args : Array Value} {w : World} {K : Value → World → Prop} (hf : P.funcs[f]? = some fn) (hn : (fn.name == "runtime.NumGoroutine") = false)
    (h:funD P T fn an args.toList w K):CallsX P f args w K:=by
  have hc:=funD_calls hT hZ hm hf h
  have hb:fn.body.isNone=false:=by
    unfold funD at h
    split at h
    · rename_i c hc;rw [hc];rfl
    · exact h.elim
  unfold CallsX callFunc
  simp only [Sem.run_bind,run_program,Result.andThen_ok,hf,hn,hb,Bool.false_eq_true,if_false,Sem.run_pure]
  exact hc
end
end Go.Eng
/-
  How the table of types of a program is laid beside the definitional reading; no condition.
-/
namespace Go.Eng
open Go
def tdB:TD→TypeDesc→Bool
  | .bool,.bool=>true
  | .int k,.int k'=>kEq k k'
  | .float .f64,.float .f64=>true
  | .float .f32,.float .f32=>true
  | .string,.string=>true
  | .ptr e,.pointer e'=>Nat.beq e e'
  | .slice e,.slice e'=>Nat.beq e e'
  | .array n e,.array n' e'=>cond (Nat.beq n n') (Nat.beq e e') false
  | .struct fs,.struct fields=>fs==fields.toList.map fun f=>(f.type,f.offset)
  | .tuple ts,.tuple es=>ts==es.toList
  | .func,.func _ _ _=>true
  | .other,d=>match d with | .struct _=>false | .array _ _=>false | _=>true
  | _,_=>false
theorem tdB_ok {td:TD} {d:TypeDesc} (h:tdB td d=true):TDOk td d:=by
  cases td<;>cases d<;>simp only [tdB] at h<;>(try (cases h;done))<;>(try exact True.intro)
  case int.int k k'=>exact kEq_eq h
  case float.float k k'=>cases k<;>cases k'<;>first | rfl | (cases h)
  case ptr.pointer=>exact Nat.eq_of_beq_eq_true h
  case slice.slice=>exact Nat.eq_of_beq_eq_true h
  case array.array=>obtain ⟨h1,h2⟩:=cond3 h;exact ⟨Nat.eq_of_beq_eq_true h1,Nat.eq_of_beq_eq_true h2⟩
  case struct.struct=>exact eq_of_beq h
  case tuple.tuple=>exact eq_of_beq h
theorem tiOk_mk {P:Program} {t:Nat} {ti:TI} {i:TypeInfo} {d:TypeDesc} (h1:P.info? t=some i) (h2:i.size=ti.size) (h3:i.bytes=ti.bytes) (h4:i.zero=some ti.zero) (h5:P.underlying t=some d) (h6:tdB ti.d d=true) (h7:ti.eq3=false:=by rfl):TIOk P t ti:=
  ⟨⟨i,h1,h2,h3,h4⟩,⟨d,h5,tdB_ok h6⟩,fun h=>by rw [h7] at h;cases h⟩
theorem eq3_mk {P : Program} {t : Nat} {f0 f1 f2 : Field} (h1 : P.underlying t = some (.struct #[f0, f1, f2])) (h2 : P.stoodInHeld t = false) (h3 : P.eqGuardType P.depth t = false) (n0 : (f0.name == "_") = false) (n1 : (f1.name == "_") = false) (n2 : (f2.name == "_") = false)
    (o0:f0.offset=0) (o1:f1.offset=1) (o2:f2.offset=2) (u0:P.underlying f0.type=some (.int .i64)) (u1:P.underlying f1.type=some (.int .i64)) (u2:P.underlying f2.type=some (.int .i64)):Eq3 P t:=by
  refine ⟨h3,fun a b c a' b' c' w=>?_⟩
  have hf:P.fieldsOf t = #[f0,f1,f2]:=by simp [Program.fieldsOf,h1]
  have m0 : f0.name ≠ "_" := by simpa using n0
  have m1 : f1.name ≠ "_" := by simpa using n1
  have m2 : f2.name ≠ "_" := by simpa using n2
  have ag:∀ {e:Nat},P.underlying e=some (.int .i64)→∀ w:World,(isAgg e).run P w = .ok false w:=fun h w=>by simp [isAgg,run_underlying h]
  have pt:∀ {e off:Nat} {xs:Array Value} {v:Value},P.underlying e=some (.int .i64)→xs[off]?=some v→∀ w:World,(part e xs off).run P w = .ok v w:=fun h hv w=>by simp [part,ag h,hv]
  rw [run_equalIn_struct w 9999 t _ _ (by rw [hf];exact h1) h2,hf]
  simp only [Op.eqFields,ne_eq,m0,m1,m2,not_false_eq_true,if_true,Sem.run_bind,o0,o1,o2]
  rw [pt u0 (v := .int .i64 a) rfl]
  simp only [Result.andThen_ok]
  rw [pt u0 (v := .int .i64 a') rfl]
  simp only [Result.andThen_ok]
  rw [run_equalIn_int _ 9998 _ _ _ _ _ u0]
  simp only [Result.andThen_ok]
  cases a==a' with
  | false=>rfl
  | true=>
    simp only [Bool.not_true,Bool.false_eq_true,if_false,Sem.run_bind]
    rw [pt u1 (v := .int .i64 b) rfl]
    simp only [Result.andThen_ok]
    rw [pt u1 (v := .int .i64 b') rfl]
    simp only [Result.andThen_ok]
    rw [run_equalIn_int _ 9998 _ _ _ _ _ u1]
    simp only [Result.andThen_ok]
    cases b==b' with
    | false=>rfl
    | true=>
      simp only [Bool.not_true,Bool.false_eq_true,if_false,Sem.run_bind]
      rw [pt u2 (v := .int .i64 c) rfl]
      simp only [Result.andThen_ok]
      rw [pt u2 (v := .int .i64 c') rfl]
      simp only [Result.andThen_ok]
      rw [run_equalIn_int _ 9998 _ _ _ _ _ u2]
      simp only [Result.andThen_ok]
      cases c==c'<;>rfl
theorem tiOk_mk3 {P:Program} {t:Nat} {ti:TI} {i:TypeInfo} {d:TypeDesc} (h1:P.info? t=some i) (h2:i.size=ti.size) (h3:i.bytes=ti.bytes) (h4:i.zero=some ti.zero) (h5:P.underlying t=some d) (h6:tdB ti.d d=true) (h7:Eq3 P t):TIOk P t ti:=
  ⟨⟨i,h1,h2,h3,h4⟩,⟨d,h5,tdB_ok h6⟩,fun _=>h7⟩
def rowsOk (P:Program):List (Nat×TI)→Prop
  | []=>True
  | p::l=>TIOk P p.1 p.2∧rowsOk P l
theorem tok_of_rows {P:Program}:∀ {l:List (Nat×TI)},rowsOk P l→TOk P (look l)
  | [],_,t,ti,h=>by simp [look] at h
  | p::l,hr,t,ti,h=>by
    simp only [look] at h
    cases hb:Nat.beq p.1 t with
    | true=>
      rw [hb] at h
      have:=Nat.eq_of_beq_eq_true hb
      subst this
      cases h
      exact hr.1
    | false=>rw [hb] at h;exact tok_of_rows hr.2 t ti h
def sizesB:List (Nat×TI)→Bool
  | []=>true
  | p::l=>cond (cond p.2.d.isAgg (Nat.beq (vcells p.2.zero).length p.2.size) true) (sizesB l) false
theorem tsize_of {l:List (Nat×TI)} (h:sizesB l=true):TSize (look l):=by
  induction l with
  | nil=>intro t ti h;simp [look] at h
  | cons p l ih=>
    intro t ti hl ha
    obtain ⟨h1,h2⟩:=cond3 h
    simp only [look] at hl
    cases hb:Nat.beq p.1 t with
    | true=>
      rw [hb] at hl
      cases hl
      rw [ha] at h1
      exact Nat.eq_of_beq_eq_true h1
    | false=>rw [hb] at hl;exact ih h2 t ti hl ha
abbrev cI_ (w:World) (p:Addr) (K:Int→Prop):Prop:=∃ n,w.cell? p=some (.int .i64 n)∧K n
abbrev cU_ (w:World) (p:Addr) (K:Int→Prop):Prop:=∃ n,w.cell? p=some (.int .u64 n)∧K n
abbrev cB_ (w:World) (p:Addr) (K:Bool→Prop):Prop:=∃ n,w.cell? p=some (.bool n)∧K n
abbrev cF_ (w:World) (p:Addr) (K:Nat→Prop):Prop:=∃ n,w.cell? p=some (.float .f64 n)∧K n
abbrev cW_ (w:World) (p:Addr) (K:Int→Prop):Prop:=∃ n,w.cell? p=some (.int .u32 n)∧K n
abbrev cS_ (w:World) (p:Addr) (K:Option Addr→Nat→Nat→Prop):Prop:=∃ a l c,w.cell? p=some (.slice a l c)∧K a l c
abbrev vS_ (v:Value) (K:Option Addr→Nat→Nat→Prop):Prop:=∃ a l c,v=(.slice a l c)∧K a l c
abbrev vB_ (v:Value) (K:Bool→Prop):Prop:=∃ b,v=(.bool b)∧K b
abbrev KV:=Value→World→Prop
abbrev OA:=Option Addr
end Go.Eng
