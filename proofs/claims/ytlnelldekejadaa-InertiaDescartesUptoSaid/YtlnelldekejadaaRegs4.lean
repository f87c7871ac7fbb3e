/-
  A statement whose order Go leaves open: an operation that only looks may be taken first, as long as what it looked at stays. No condition.
-/
import Derived.Test.YtlnelldekejadaaSnd6
set_option linter.all false
namespace Go.Eng
open Go
section
variable {P:Program} {ops:Array Oper} {Q:Exit→Act→World→Prop} {C:Array Bool→World→Prop}
def plainNext:Result Next→Prop
  | .ok .skip _=>False
  | .ok (.enter _ _) _=>False
  | .ok (.row _ _) _=>False
  | _=>True
theorem plain_bind {α:Type} {x:Sem α} {f:α→Sem Next} (h:∀ a w,plainNext ((f a).run P w)) (w:World):plainNext ((x >>= f).run P w):=by
  rw [Sem.run_bind]
  cases x.run P w with
  | ok a w'=>exact h a w'
  | halt x w'=>trivial
theorem plain_v (s:Sem Value) (w:World):plainNext ((do pure (Next.value (← s)):Sem Next).run P w):=by
  apply plain_bind;intro v w;exact trivial
theorem plain_panic (w:World) (e:RuntimeError) (he:e = .nilDeref):plainNext ((runtimePanic (α:=Next) e).run P w):=by
  subst he
  unfold runtimePanic
  apply plain_bind;intro v w;exact trivial
theorem quiet_run {o:Oper} (h:quiet o.op=true) (ρ:Operand→Value) (w:World):plainNext ((execOp ρ o).run P w):=by
  obtain ⟨dst,op,ty,pos,after,guard⟩:=o
  cases op<;>simp only [quiet] at h<;>(try (cases h;done))
  case nilCheck x=>
    simp only [execOp]
    split
    · exact plain_panic w _ rfl
    · exact plain_panic w _ rfl
    · exact plain_panic w _ rfl
    · split
      · exact plain_panic w _ rfl
      · refine plain_bind (fun p w=>plain_bind (fun b w=>?_) w) w
        split
        · apply plain_bind;intro v w;exact trivial
        · exact trivial
      · exact trivial
    · trivial
  case call c=>
    obtain ⟨callee,args,ts⟩:=c
    cases callee<;>simp only at h<;>(try (cases h;done))
    rename_i b
    cases b<;>simp only [quietB] at h<;>(try (cases h;done))
    all_goals (simp only [execOp,resolve,pure_bind,invoke,builtin];exact plain_v _ _)
  case pick c a b=>simp only [execOp];apply plain_bind;intro v w;exact trivial
  all_goals (first | exact plain_v _ _ | trivial)
def wpC (P:Program) (ops:Array Oper) (Q:Exit→Act→World→Prop) (C:Array Bool→World→Prop):Nat→Array Bool→Act→World→Prop
  | 0,listed,a,w=>Region.ready .any ops listed = []∧∀ n,Q .normal a (w.drewN n)
  | fuel+1,listed,a,w=>∀ n,(Region.ready .any ops listed = []→Q .normal a (w.drewN n)) ∧
      ∀ i∈Region.ready .any ops listed,wpOp P ops Q i (fun a' w'=>C (listed.setIfInBounds i true) w'∧wpC P ops Q C fuel (listed.setIfInBounds i true) a' w') a (w.drewN n)
theorem wpAny_of_C:∀ (fuel:Nat) (listed:Array Bool) (a:Act) (w:World),wpC P ops Q C fuel listed a w→wpAny P .any ops Q fuel listed a w
  | 0,_,_,_,h=>⟨h.1,h.2 0⟩
  | fuel+1,_,_,_,h=>⟨(h 0).1,fun i hi=>wpOp_mono (fun a' w' h'=>wpAny_of_C fuel _ a' w' h'.2) ((h 0).2 i hi)⟩
theorem wpC_drew {fuel:Nat} {listed:Array Bool} {a:Act} {w:World} (h:wpC P ops Q C fuel listed a w) (m:Nat):wpC P ops Q C fuel listed a (w.drewN m):=by
  cases fuel with
  | zero=>exact ⟨h.1,fun n=>by rw [World.drewN_drewN];exact h.2 _⟩
  | succ fuel=>intro n;rw [World.drewN_drewN];exact h _
def Ext (l l':Array Bool):Prop:=∀ j,l.getD j false=true→l'.getD j false=true
theorem Ext.refl (l:Array Bool):Ext l l:=fun _ h=>h
theorem Ext.set {l l':Array Bool} (h:Ext l l') (i:Nat):Ext l (l'.setIfInBounds i true):=fun j hj=>getD_set_true (h j hj)
theorem wpC_mono {C':Array Bool→World→Prop}:∀ (fuel:Nat) (l0 listed:Array Bool) (a:Act) (w:World),Ext l0 listed→(∀ l w,Ext l0 l→C' l w→C l w) →
    wpC P ops Q C' fuel listed a w→wpC P ops Q C fuel listed a w
  | 0,_,_,_,_,_,_,h=>h
  | fuel+1,l0,_,_,_,hx,hC,h=>fun n=>⟨(h n).1,fun i hi=>wpOp_mono (fun a' w' h'=>⟨hC _ _ (hx.set i) h'.1,wpC_mono fuel l0 _ a' w' (hx.set i) hC h'.2⟩) ((h n).2 i hi)⟩
def closedL (ops:Array Oper) (listed:Array Bool):Prop:=∀ j oj,ops[j]?=some oj→listed.getD j false=true→∀ e∈oj.after,Region.binds .any e=true→listed.getD e.on false=true
theorem getD_both' {listed:Array Bool} {i:Nat} (h:listed.getD i true=false):listed.getD i false=false:=by
  rcases Nat.lt_or_ge i listed.size with h' | h'
  · simp [h'] at h ⊢;exact h
  · simp [Array.getElem?_eq_none h'] at h
theorem closedL.set {i:Nat} {listed:Array Bool} (h:closedL ops listed) (hi:i∈Region.ready .any ops listed):closedL ops (listed.setIfInBounds i true):=by
  obtain ⟨_,oi,hoi,hall⟩:=mem_ready.1 hi
  intro j oj hj hl e he hb
  by_cases hij:i=j
  · subst hij
    have:oj=oi:=Option.some.inj (hj.symm.trans hoi)
    subst this
    exact getD_set_true (hall e he hb)
  · rw [getD_set_ne false hij] at hl
    exact getD_set_true (h j oj hj hl e he hb)
def YS (P:Program) (ops:Array Oper) (C:Array Bool→World→Prop) (i:Nat) (o:Oper) (S:Value→Prop) (a:Act):Prop:=
  (Region.wanted o (yielded ops a.tmps)=true∧∀ l w,closedL ops l→l.getD i true=false→C l w→∃ v n,(execOp a.eval o).run P w = .ok (.value v) (w.drewN n)∧S v) ∨
  (Region.wanted o (yielded ops a.tmps)=false∧S undef)
theorem YS.same {i:Nat} {o:Oper} {S:Value→Prop} {a a':Act} (h:YS P ops C i o S a) (he:execOp a'.eval o=execOp a.eval o)
    (hw:Region.wanted o (yielded ops a'.tmps)=Region.wanted o (yielded ops a.tmps)):YS P ops C i o S a':=by
  unfold YS at *;rw [he,hw];exact h
theorem wpOp_all {j:Nat} {oi oj:Oper} {S:Value→Prop} (hj:ops[j]?=some oj) (hap:oi.apart ops oj=true)
    (hsj:∀ cs b,oj.op ≠ .select cs b) (hne:∃ v,S v) (hS:(∀ v v',S v→S v'→v=v')∨quiet oj.op=true) (hQ:∀ c a w,¬ Q (.panic c) a w)
    {K:Value→Act→World→Prop} {R:Act→Prop} (hR:∀ a,R a→∀ u,R (a.put oj.dst u)) (hRd:∀ a d,R a→R { a with defers:=d::a.defers }) {a:Act} {w:World} (hRa:R a)
    (h:∀ v,S v→wpOp P ops Q j (K v) (a.put oi.dst v) w) :
    wpOp P ops Q j (fun a' w'=>R a'∧∀ v,S v→K v (a'.put oi.dst v) w') a w:=by
  obtain ⟨h1,h2,h3⟩:=Oper.apart_spec hap
  obtain ⟨v0,hv0⟩:=hne
  unfold wpOp at *
  simp only [hj] at *
  have hwant:∀ v,Region.wanted oj (yielded ops (a.put oi.dst v).tmps)=Region.wanted oj (yielded ops a.tmps):=fun v=>wanted_put oj a oi.dst v h1
  by_cases hw:Region.wanted oj (yielded ops a.tmps)=true
  · simp only [hwant,hw,if_true] at h ⊢
    by_cases hask:oj.asks P a w∧LetsOut Q
    · exact .inr hask
    · have h':∀ v,S v→oj.wp P (a.put oi.dst v) w (K v) Q:=fun v hv=>(h v hv).resolve_right fun ⟨x,y⟩=>hask ⟨by
        unfold Oper.asks at *;rw [execOp_put oj hsj a oi.dst v h1] at x;exact x,y⟩
      refine .inl ?_
      have hq:=fun hq=>quiet_run (P:=P) (o:=oj) hq a.eval w
      unfold Oper.wp at *
      have h'':∀ v,S v→oj.upon P (a.put oi.dst v) (K v) Q ((execOp a.eval oj).run P w):=fun v hv=>by
        have:=h' v hv
        rwa [execOp_put oj hsj a oi.dst v h1] at this
      clear h' h
      generalize (execOp a.eval oj).run P w=r at *
      cases r with
      | ok n w'=>
        cases n<;>simp only [Oper.upon] at h'' ⊢ <;> (try exact (h'' v0 hv0).elim)
        case value u=>exact ⟨hR a hRa u,fun v hv=>by rw [← Act.put_comm a v u h2];exact h'' v hv⟩
        case skip=>exact ⟨hR a hRa _,fun v hv=>by rw [← Act.put_comm a v undef h2];exact h'' v hv⟩
        case defer d=>
          refine ⟨hR _ (hRd a d hRa) _,fun v hv=>?_⟩
          rw [← Act.put_comm _ v undef h2,← Act.put_defers]
          exact h'' v hv
        case enter f args=>
          rcases hS with hS | hS
          · refine Calls.mono (h'' v0 hv0) fun e w'' he=>?_
            cases e with
            | returned u=>exact ⟨hR a hRa u,fun v hv=>by rw [hS v v0 hv hv0,← Act.put_comm a v0 u h2];exact he⟩
            | panicked c=>exact (hQ _ _ _ he).elim
            | outgrown=>exact he
          · exact (hq hS).elim
        case row row args=>
          rcases hS with hS | hS
          · refine Rows.mono (h'' v0 hv0) fun u w'' he=>?_
            exact ⟨hR a hRa u,fun v hv=>by rw [hS v v0 hv hv0,← Act.put_comm a v0 u h2];exact he⟩
          · exact (hq hS).elim
      | halt x w'=>cases x<;>simp only [Oper.upon] at h'' ⊢ <;> first | exact (h'' v0 hv0).elim | exact (hQ _ _ _ (h'' v0 hv0)).elim
  · simp only [hwant,hw] at h ⊢
    exact ⟨hR a hRa _,fun v hv=>by rw [← Act.put_comm a v undef h2];exact h v hv⟩
inductive Beh (ops:Array Oper) (i:Nat):Nat→Prop
  | self:Beh ops i i
  | step {j:Nat} {oj:Oper} {e:Edge}:ops[j]?=some oj→e∈oj.after→Region.binds .any e=true→Beh ops i e.on→Beh ops i j
theorem Beh.unlisted {i j:Nat} {listed:Array Bool} (hcl:closedL ops listed) (hi:listed.getD i true=false) (h:Beh ops i j):listed.getD j false=false:=by
  induction h with
  | self=>exact getD_both' hi
  | @step j oj e hj he hb _ ih=>
    cases hl:listed.getD j false with
    | false=>rfl
    | true=>rw [hcl j oj hj hl e he hb] at ih;cases ih
theorem wpC_first {i:Nat} {oi:Oper} {S:Value→Prop} (hi:ops[i]?=some oi) (hsel:∀ (j:Nat) (o:Oper) cs b,ops[j]?=some o→o.op ≠ .select cs b)
    (hCd:∀ l w n,C l w→C l (w.drewN n)) (hCi:∀ l w,C (l.setIfInBounds i true) w↔C l w) (hQ:∀ c a w,¬ Q (.panic c) a w) (hne:∃ v,S v) :
    ∀ (fuel:Nat) (listed:Array Bool) (a:Act) (w:World),
      ((∀ v v',S v→S v'→v=v')∨(∀ j oj,ops[j]?=some oj→listed.getD j true=false→j≠i→(∀ e∈oj.after,Region.binds .any e=true → ¬ Beh ops i e.on)→quiet oj.op=true)) →
      (∀ j oj,ops[j]?=some oj→j≠i→listed.getD j true=false→(∀ e∈oj.after,Region.binds .any e=true→e.on≠i)→oi.apart ops oj=true) →
      i∈Region.ready .any ops listed→closedL ops listed→C listed w→YS P ops C i oi S a →
      (∀ v,S v→wpC P ops Q C fuel (listed.setIfInBounds i true) (a.put oi.dst v) w)→wpC P ops Q C (fuel+1) listed a w:=by
  intro fuel
  induction fuel with
  | zero=>
    intro listed a w hS hfree hr hcl hC hy H n
    refine ⟨fun h=>(by rw [h] at hr;cases hr),fun j hj=>?_⟩
    by_cases hji:j=i
    · subst hji
      have hun:=(mem_ready.1 hr).1
      unfold wpOp
      simp only [hi]
      rcases hy with ⟨hw,hy⟩ | ⟨hw,hy⟩
      · simp only [hw,if_true]
        obtain ⟨v,m,hrun,hv⟩:=hy listed (w.drewN n) hcl hun (hCd _ _ _ hC)
        refine .inl ?_
        unfold Oper.wp
        rw [hrun]
        simp only [Oper.upon]
        exact ⟨(hCi _ _).2 (hCd _ _ _ (hCd _ _ _ hC)),by rw [World.drewN_drewN];exact wpC_drew (H v hv) _⟩
      · simp only [hw,Bool.false_eq_true,if_false]
        exact ⟨(hCi _ _).2 (hCd _ _ _ hC),wpC_drew (H _ hy) _⟩
    · obtain ⟨v,hv⟩:=hne
      have:=ready_mono hj hji
      rw [(H v hv).1] at this
      cases this
  | succ fuel ih=>
    intro listed a w hS hfree hr hcl hC hy H n
    refine ⟨fun h=>(by rw [h] at hr;cases hr),fun j hj=>?_⟩
    by_cases hji:j=i
    · subst hji
      have hun:=(mem_ready.1 hr).1
      unfold wpOp
      simp only [hi]
      rcases hy with ⟨hw,hy⟩ | ⟨hw,hy⟩
      · simp only [hw,if_true]
        obtain ⟨v,m,hrun,hv⟩:=hy listed (w.drewN n) hcl hun (hCd _ _ _ hC)
        refine .inl ?_
        unfold Oper.wp
        rw [hrun]
        simp only [Oper.upon]
        exact ⟨(hCi _ _).2 (hCd _ _ _ (hCd _ _ _ hC)),by rw [World.drewN_drewN];exact wpC_drew (H v hv) _⟩
      · simp only [hw,Bool.false_eq_true,if_false]
        exact ⟨(hCi _ _).2 (hCd _ _ _ hC),wpC_drew (H _ hy) _⟩
    · obtain ⟨hjun,oj,hoj,hall⟩:=mem_ready.1 hj
      have hnot:∀ e∈oj.after,Region.binds .any e=true→e.on≠i:=fun e he hb heq=>by
        have h1:=hall e he hb
        have h0:=getD_both' (mem_ready.1 hr).1
        rw [heq,h0] at h1
        cases h1
      have hnot':∀ e∈oj.after,Region.binds .any e=true → ¬ Beh ops i e.on:=fun e he hb hbe=>by
        have h1:=hall e he hb
        rw [hbe.unlisted hcl (mem_ready.1 hr).1] at h1
        cases h1
      have hap:=hfree j oj hoj hji hjun hnot
      obtain ⟨h1,h2,h3⟩:=Oper.apart_spec hap
      have hall2:=wpOp_all (S:=S) (R:=fun a'=>YS P ops C i oi S a') (K:=fun v a' w'=>C ((listed.setIfInBounds i true).setIfInBounds j true) w'∧wpC P ops Q C fuel ((listed.setIfInBounds i true).setIfInBounds j true) a' w')
        hoj hap (fun cs b=>hsel j oj cs b hoj) hne (hS.imp id fun h=>h j oj hoj hjun hji hnot') hQ
        (fun a hy u=>hy.same (execOp_put oi (fun cs b=>hsel i oi cs b hi) a oj.dst u h3) (wanted_put oi a oj.dst u h3)) (fun a d hy=>hy.same rfl rfl) hy
        (fun v hv=>(H v hv n).2 j (ready_mono hj hji))
      refine wpOp_mono (fun a' w' hh=>?_) hall2
      obtain ⟨hy',hh⟩:=hh
      obtain ⟨v0,hv0⟩:=hne
      have hcomm:(listed.setIfInBounds i true).setIfInBounds j true=(listed.setIfInBounds j true).setIfInBounds i true:=Array.setIfInBounds_comm _ _ (Ne.symm hji)
      have hC':C (listed.setIfInBounds j true) w':=by
        have:=(hh v0 hv0).1
        rw [hcomm] at this
        exact (hCi _ _).1 this
      have hsub:∀ k ok,ops[k]?=some ok→(listed.setIfInBounds j true).getD k true=false→listed.getD k true=false:=fun k ok _ hun=>by
        by_cases hjk:j=k
        · subst hjk;exact hjun
        · rw [getD_set_ne true hjk] at hun;exact hun
      refine ⟨hC',ih (listed.setIfInBounds j true) a' w' (hS.imp id fun h k ok hk hun=>h k ok hk (hsub k ok hk hun)) ?_ (ready_mono hr (Ne.symm hji)) (hcl.set hj) hC' hy' ?_⟩
      · intro k ok hk hki hun hno
        exact hfree k ok hk hki (hsub k ok hk hun) hno
      · intro v hv
        rw [← hcomm]
        exact (hh v hv).2
end
end Go.Eng
/-
  A region of operations, in the order of the text or in an order that Go leaves open, read definitionally: sound. No condition but that the table of types is the program's.
-/
namespace Go.Eng
open Go
structure Rel (n:Nat) (e:Env) (a:Act):Prop where
  size:a.tmps.size=n
  defers:a.defers = []
  vals:∀ t v,e t=some v→a.tmps.getD t undef=v
def Fr (p:Nat→Prop) (a a':Act):Prop:=∀ t,¬ p t→a'.tmps.getD t undef=a.tmps.getD t undef
theorem Fr.refl (p:Nat→Prop) (a:Act):Fr p a a:=fun _ _=>rfl
theorem Fr.trans {p:Nat→Prop} {a b c:Act} (h:Fr p a b) (k:Fr p b c):Fr p a c:=fun t ht=>(k t ht).trans (h t ht)
theorem Fr.mono {p q:Nat→Prop} {a b:Act} (h:Fr p a b) (hp:∀ t,p t→q t):Fr q a b:=fun t ht=>h t fun hh=>ht (hp t hh)
theorem Rel.ev {n:Nat} {e:Env} {a:Act} (h:Rel n e a):EvOk e a.eval:=by
  intro x v hx
  cases x with
  | tmp t=>exact h.vals t v hx
  | const u=>simp [Eng.ev] at hx;subst hx;rfl
  | global g=>simp [Eng.ev] at hx;subst hx;rfl
  | func f=>simp [Eng.ev] at hx;subst hx;rfl
theorem Rel.upd_same {n:Nat} {e:Env} {a:Act} (h:Rel n e a) {t:Nat} {v:Value} (ht:a.tmps.getD t undef=v):Rel n (upd e t v) a:=by
  refine ⟨h.size,h.defers,fun t' v' h'=>?_⟩
  unfold upd at h'
  cases hb:Nat.beq t' t with
  | true=>
    rw [hb] at h'
    have:=Nat.eq_of_beq_eq_true hb
    subst this
    simp at h'
    rw [ht,h']
  | false=>rw [hb] at h';exact h.vals t' v' h'
theorem Rel.put {n:Nat} {e:Env} {a:Act} (h:Rel n e a) {d:Nat} (hd:d<n) (v:Value):Rel n (upd e d v) (a.put (some d) v):=by
  refine ⟨by simp [Act.put,h.size],h.defers,fun t v' h'=>?_⟩
  unfold upd at h'
  have hs:=h.size
  cases hb:Nat.beq t d with
  | true=>
    rw [hb] at h'
    have:=Nat.eq_of_beq_eq_true hb
    subst this
    simp at h'
    have hlt:t<a.tmps.size:=by omega
    simp [Act.put,hlt,h']
  | false=>
    rw [hb] at h'
    have hne:d≠t:=fun e=>by subst e;simp at hb
    have:=h.vals t v' h'
    simpa [Act.put,Array.getElem?_setIfInBounds_ne hne] using this
theorem Fr.put {p:Nat→Prop} {a:Act} {d:Option Nat} (h:∀ t,d=some t→p t) (v:Value):Fr p a (a.put d v):=by
  intro t ht
  cases d with
  | none=>rfl
  | some d=>
    have hne:d≠t:=fun e=>ht (h t (by rw [e]))
    simp [Act.put,Array.getElem?_setIfInBounds_ne hne]
section
variable {P:Program} {T:Nat→Option TI} {n:Nat} {Q:Exit→Act→World→Prop}
theorem setD_ok {e:Env} {a:Act} (h:Rel n e a) {d:Option Nat} {v:Value} {K:Env→Prop} (hk:setD n e d v K):∃ e',Rel n e' (a.put d v)∧K e':=by
  cases d with
  | none=>exact ⟨e,h,hk⟩
  | some d=>
    obtain ⟨hb,hk⟩:=cond_true hk
    have hd:d<n:=by
      have:d+1≤n:=by simpa [Nat.blt] using hb
      omega
    exact ⟨_,h.put hd v,hk⟩
theorem wp_of_out {o:Oper} {a:Act} {w:World} {K:Value→World→Prop} {next:Act→World→Prop} (h:Out P K ((execOp a.eval o).run P w)) (hk:∀ v w',K v w'→next (a.put o.dst v) w'):o.wp P a w next Q:=by
  unfold Oper.wp
  generalize (execOp a.eval o).run P w=r at h
  unfold Out at h
  split at h
  · exact hk _ _ h
  · exact hk _ _ h
  · exact h.mono fun e w' ⟨v,he,hkk⟩=>by subst he;exact hk _ _ hkk
  · exact h.elim
theorem dst_eq {ops:List Oper} {j t:Nat} (h:dstOf ops j=some t):((ops.toArray[j]?).bind (·.dst))=some t:=by
  unfold dstOf at h
  rw [nth_eq] at h
  cases ho:ops[j]? with
  | none=>simp [ho] at h
  | some o=>simp [ho] at h;simp [ho,h]
theorem yield_bool {ops:List Oper} {j t:Nat} {e:Env} {a:Act} {b:Bool} (h:Rel n e a) (hd:dstOf ops j=some t) (he:e t=some (.bool b)):yielded ops.toArray a.tmps j=some b:=by
  have hv:=h.vals t _ he
  unfold yielded
  rw [dst_eq hd]
  have:a.tmps[t]?=some (.bool b):=by
    rw [Array.getD_eq_getD_getElem?] at hv
    cases hh:a.tmps[t]? with
    | none=>rw [hh] at hv;simp [undef] at hv
    | some u=>rw [hh] at hv;simpa using hv
  simp [this]
theorem yield_none {ops:List Oper} {j t:Nat} {e:Env} {a:Act} {v:Value} (h:Rel n e a) (hd:dstOf ops j=some t) (he:e t=some v) (hv:∀ b,v ≠ .bool b):yielded ops.toArray a.tmps j=none:=by
  have hh:=h.vals t _ he
  unfold yielded
  rw [dst_eq hd]
  simp only [Option.bind_some]
  rw [Array.getD_eq_getD_getElem?] at hh
  cases hq:a.tmps[t]? with
  | none=>rfl
  | some u=>
    rw [hq] at hh
    simp at hh
    subst hh
    cases u<;>first | rfl | (exact absurd rfl (hv _))
theorem operD_ok (hT:TOk P T) (hZ:TSize T) {ops:List Oper} {o:Oper} {e:Env} {a:Act} {w:World} {K:Env→World→Prop} {next:Act→World→Prop} (hr:Rel n e a)
    (h:operD P T n ops o e w K) (hk:∀ e' v w',Rel n e' (a.put o.dst v)→K e' w'→next (a.put o.dst v) w') :
    if Region.wanted o (yielded ops.toArray a.tmps) then o.wp P a w next Q else next (a.put o.dst undef) w:=by
  unfold operD at h
  cases hg:o.guard with
  | none=>
    simp only [hg] at h
    have hw:Region.wanted o (yielded ops.toArray a.tmps)=true:=by simp [Region.wanted,hg]
    rw [if_pos hw]
    exact wp_of_out (opD_ok hT hZ hr.ev h) fun v w' hkk=>let ⟨e',h1,h2⟩:=setD_ok hr hkk;hk e' v w' h1 h2
  | some g=>
    obtain ⟨j,want⟩:=g
    simp only [hg] at h
    obtain ⟨t,ht,h⟩:=bindL_some h
    split at h
    · rename_i b hb
      have hy:=yield_bool hr ht hb
      have hwd:Region.wanted o (yielded ops.toArray a.tmps)=(b==want):=by simp [Region.wanted,hg,hy]
      rw [hwd]
      have hval:=hr.vals t _ hb
      rcases cond_or h with ⟨hc,h'⟩ | ⟨hc,h'⟩
      · have hbw:b=want:=by cases want<;>cases b<;>simp_all
        subst hbw
        rw [if_pos (by simp)]
        have hr':=hr.upd_same hval
        exact wp_of_out (opD_ok hT hZ hr'.ev h') fun v w' hkk=>let ⟨e',h1,h2⟩:=setD_ok hr' hkk;hk e' v w' h1 h2
      · have hbw:b = !want:=by cases want<;>cases b<;>simp_all
        subst hbw
        rw [if_neg (by simp)]
        have hr':=hr.upd_same hval
        obtain ⟨e',h1,h2⟩:=setD_ok hr' h'
        exact hk e' undef w h1 h2
    · rename_i v hv hnb
      have hy:=yield_none hr ht hnb (fun b hb=>hv b hb)
      have hwd:Region.wanted o (yielded ops.toArray a.tmps)=false:=by simp [Region.wanted,hg,hy]
      rw [if_neg (by simp [hwd])]
      obtain ⟨e',h1,h2⟩:=setD_ok hr h
      exact hk e' undef w h1 h2
    · exact h.elim
theorem opsD_ok (hT:TOk P T) (hZ:TSize T) {all:List Oper}:∀ {l:List Oper} {e:Env} {a:Act} {w:World} {K:Env→World→Prop},Rel n e a →
    opsD P T n all l e w K→∀ (a0:Act) (p:Nat→Prop),(∀ o∈l,∀ t,o.dst=some t→p t)→Fr p a0 a→(∀ e' a' w',Rel n e' a'→Fr p a0 a'→K e' w'→Q .normal a' w')→wpList P all.toArray Q l a w
  | [],e,a,w,K,hr,h,a0,p,hp,hf,hk=>hk e a w hr hf h
  | o::l,e,a,w,K,hr,h,a0,p,hp,hf,hk=>by
    simp only [wpList]
    have:=operD_ok (Q:=Q) (next:=wpList P all.toArray Q l) hT hZ hr h fun e' v w' hr' hkk=>
      opsD_ok hT hZ hr' hkk a0 p (fun o' ho'=>hp o' (List.mem_cons_of_mem _ ho')) (hf.trans (Fr.put (fun t ht=>hp o (List.mem_cons_self ..) t ht) v)) hk
    split
    · rename_i hw;rw [if_pos hw] at this;exact .inl this
    · rename_i hw;rw [if_neg hw] at this;exact this
end
end Go.Eng
/-
  What an operation that only looks yields does not hang on the world, but for the cells that it read. No condition.
-/
namespace Go.Eng
open Go
section
variable {P:Program} {T:Nat→Option TI}
theorem bindL_mk {α:Type} {o:Option α} {v:α} {K:α→Prop} (h:o=some v) (hk:K v):bindL o K:=by subst h;exact hk
theorem bindV_mk {o:Option Value} {v:Value} {K:Value→Prop} (h:o=some v) (hk:K v):bindV o K:=by subst h;exact hk
theorem optM_mk {α:Type} {o:Option α} {v:α} {K:α→Prop} (h:o=some v) (hk:K v):optM o K:=by subst h;exact hk
theorem cond_mk {b:Bool} {A:Prop} (h:b=true) (hk:A):cond b A False:=by subst h;exact hk
theorem binInt_det {op:BinOp} {k:IntKind} {a b:Int} {K:Value→Prop} (h:binInt op k a b K):∃ v,K v∧∀ K':Value→Prop,K' v→binInt op k a b K':=by
  cases op<;>simp only [binInt] at h ⊢ <;> (first | exact h.elim | exact ⟨_,h,fun _ hk=>hk⟩ | exact ⟨_,h.2,fun _ hk=>⟨h.1,hk⟩⟩)
def isArith (op:BinOp):Bool:=match op with | .add | .sub | .mul | .quo=>true | _=>false
theorem binD_det {ti:TI} {op:BinOp} {x y:Value} {w:World} {K:Value→Prop} (hd:∀ k,ti.d = .float k→isArith op=false) (h:binD ti op x y w fun v _=>K v) :
    ∃ v,K v∧∀ (w':World) (K':Value→World→Prop),K' v w'→binD ti op x y w' K':=by
  unfold binD at h
  split at h
  · split at h
    · exact ⟨_,h.2,fun w' K' hk=>⟨h.1,hk⟩⟩
    · exact ⟨_,h.2,fun w' K' hk=>⟨h.1,hk⟩⟩
    · rename_i op' h1 h2
      obtain ⟨hk,h⟩:=cond_true h
      obtain ⟨v,hv,hb⟩:=binInt_det h
      refine ⟨v,hv,fun w' K' hk'=>?_⟩
      have hb':=hb (fun u=>K' u w') hk'
      unfold binD
      cases op<;>first | exact cond_mk hk hb' | exact (h1 rfl).elim | exact (h2 rfl).elim
  · rename_i a b
    split at h
    · rename_i k hb
      have:=hd k hb
      cases op<;>(try (cases this;done))<;>simp only [binFlt] at h<;>first | exact h.elim | exact ⟨_,h,fun w' K' hk=>by simp only [binD,hb];exact hk⟩
    · exact h.elim
  · split at h
    · rename_i hb
      split at h
      · exact ⟨_,h,fun w' K' hk=>by simp only [binD,hb];exact hk⟩
      · exact ⟨_,h,fun w' K' hk=>by simp only [binD,hb];exact hk⟩
      · exact h.elim
    · exact h.elim
  · split at h
    · rename_i hb
      split at h
      · exact ⟨_,h,fun w' K' hk=>by simp only [binD,hb];exact hk⟩
      · exact ⟨_,h,fun w' K' hk=>by simp only [binD,hb];exact hk⟩
      · exact h.elim
    · exact h.elim
  · split at h
    · rename_i hb
      split at h
      · exact ⟨_,h,fun w' K' hk=>by simp only [binD,hb];exact hk⟩
      · exact ⟨_,h,fun w' K' hk=>by simp only [binD,hb];exact hk⟩
      · exact h.elim
    · exact h.elim
  · split at h
    · exact ⟨_,h,fun w' K' hk=>hk⟩
    · exact ⟨_,h,fun w' K' hk=>hk⟩
    · exact h.elim
  · rename_i xs ys
    obtain ⟨he,h⟩:=cond_true h
    unfold eq3D at h
    split at h
    · rename_i hx hy
      split at h
      · exact ⟨_,h,fun w' K' hk=>by simp only [binD,eq3D,he,hx,hy,cond];exact hk⟩
      · exact ⟨_,h,fun w' K' hk=>by simp only [binD,eq3D,he,hx,hy,cond];exact hk⟩
      · exact h.elim
    · exact h.elim
  · exact h.elim
theorem unD_det {op:UnOp} {x:Value} {K:Value→Prop} (h:unD op x K):∃ v,K v∧∀ K':Value→Prop,K' v→unD op x K':=by
  unfold unD at h
  split at h
  · exact ⟨_,h,fun _ hk=>hk⟩
  · exact ⟨_,h,fun _ hk=>hk⟩
  · exact ⟨_,h,fun _ hk=>hk⟩
  · exact ⟨_,h,fun _ hk=>hk⟩
  · exact h.elim
theorem sliceD_det {s:Nat} {a:Option Addr} {l c:Nat} {lo hi mx:Option Value} {K:Value→Prop} (h:sliceD s a l c lo hi mx K):∃ v,K v∧∀ K':Value→Prop,K' v→sliceD s a l c lo hi mx K':=by
  unfold sliceD at h
  split at h
  · exact ⟨_,h,fun K' hk=>hk⟩
  · exact ⟨_,h.2.2,fun K' hk=>⟨h.1,h.2.1,hk⟩⟩
  · exact ⟨_,h.2.2,fun K' hk=>⟨h.1,h.2.1,hk⟩⟩
  · obtain ⟨h1,h2,h3,h4,h⟩:=h;exact ⟨_,h,fun K' hk=>⟨h1,h2,h3,h4,hk⟩⟩
  · obtain ⟨h1,h2,h3,h4,h5,h6,h⟩:=h;exact ⟨_,h,fun K' hk=>⟨h1,h2,h3,h4,h5,h6,hk⟩⟩
  · exact h.elim
theorem len_det {ts:List Nat} {args:List Value} {w:World} {K:Value→Prop} (h:builtinD T .len ts args w fun v _=>K v) :
    ∃ v,K v∧∀ (w':World) (K':Value→World→Prop),K' v w'→builtinD T .len ts args w' K':=by
  unfold builtinD at h
  split at h<;>(try (rename_i hx;cases hx;done))<;>(try exact h.elim)
  all_goals (
    replace h:=bindL_some h
    obtain ⟨t,ht,h⟩:=h
    replace h:=bindL_some h
    obtain ⟨ti,hti,h⟩:=h)
  case h_3=>
    split at h
    · rename_i e1
      replace h:=bindL_some h
      obtain ⟨te,hte,h⟩:=h
      split at h
      · rename_i e2
        exact ⟨_,h,fun w' K' hk=>bindL_mk ht (bindL_mk hti (by simp only [e1];exact bindL_mk hte (by simp only [e2];exact hk)))⟩
      · exact h.elim
    · exact h.elim
  all_goals (
    split at h
    · rename_i e1
      exact ⟨_,h,fun w' K' hk=>bindL_mk ht (bindL_mk hti (by simp only [e1];exact hk))⟩
    · exact h.elim)
theorem cap_det {ts:List Nat} {args:List Value} {w:World} {K:Value→Prop} (h:builtinD T .cap ts args w fun v _=>K v) :
    ∃ v,K v∧∀ (w':World) (K':Value→World→Prop),K' v w'→builtinD T .cap ts args w' K':=by
  unfold builtinD at h
  split at h<;>(try (rename_i hx;cases hx;done))<;>(try exact h.elim)
  all_goals (
    replace h:=bindL_some h
    obtain ⟨t,ht,h⟩:=h
    replace h:=bindL_some h
    obtain ⟨ti,hti,h⟩:=h)
  all_goals (
    split at h
    · rename_i e1
      exact ⟨_,h,fun w' K' hk=>bindL_mk ht (bindL_mk hti (by simp only [e1];exact hk))⟩
    · exact h.elim)
theorem opD_det {e:Env} {ty:Nat} {op:Op} {w:World} {K:Value→Prop} (hq:quiet op=true) (hl:∀ t a,op ≠ .load t a) (hd:draws T op=false) (h:opD P T e ty op w fun v _=>K v) :
    ∃ v,K v∧∀ (w':World) (K':Value→World→Prop),K' v w'→opD P T e ty op w' K':=by
  cases op<;>(try (cases hq;done))
  case move x=>replace h:=bindV_some h;obtain ⟨v,hv,h⟩:=h;exact ⟨v,h,fun w' K' hk=>bindV_mk hv hk⟩
  case assign x=>replace h:=bindV_some h;obtain ⟨v,hv,h⟩:=h;exact ⟨v,h,fun w' K' hk=>bindV_mk hv hk⟩
  case pick c a b=>
    replace h:=bindV_some h;obtain ⟨v,hv,h⟩:=h
    split at h
    · rename_i t
      rcases cond_or h with ⟨rfl,h⟩ | ⟨rfl,h⟩
      · replace h:=bindV_some h;obtain ⟨u,hu,h⟩:=h;exact ⟨u,h,fun w' K' hk=>bindV_mk hv (bindV_mk hu hk)⟩
      · replace h:=bindV_some h;obtain ⟨u,hu,h⟩:=h;exact ⟨u,h,fun w' K' hk=>bindV_mk hv (bindV_mk hu hk)⟩
    · exact h.elim
  case build t ps=>
    replace h:=bindL_some h;obtain ⟨ti,hti,h⟩:=h
    split at h
    · rename_i fs hfs
      replace h:=bindL_some h;obtain ⟨pl,hpl,h⟩:=h
      replace h:=bindL_some h;obtain ⟨vs,hvs,h⟩:=h
      replace h:=bindL_some h;obtain ⟨cs,hcs,h⟩:=h
      exact ⟨_,h,fun w' K' hk=>bindL_mk hti (by simp only [hfs];exact bindL_mk hpl (bindL_mk hvs (bindL_mk hcs hk)))⟩
    · rename_i n el hfs
      replace h:=bindL_some h;obtain ⟨pl,hpl,h⟩:=h
      replace h:=bindL_some h;obtain ⟨vs,hvs,h⟩:=h
      replace h:=bindL_some h;obtain ⟨cs,hcs,h⟩:=h
      exact ⟨_,h,fun w' K' hk=>bindL_mk hti (by simp only [hfs];exact bindL_mk hpl (bindL_mk hvs (bindL_mk hcs hk)))⟩
    · exact h.elim
  case load t a=>exact absurd rfl (hl t a)
  case nilCheck x=>
    replace h:=bindV_some h;obtain ⟨v,hv,h⟩:=h
    split at h
    · replace h:=optM_some h;obtain ⟨a,ha,h⟩:=h;exact ⟨_,h,fun w' K' hk=>bindV_mk hv (optM_mk ha hk)⟩
    · exact ⟨_,h,fun w' K' hk=>bindV_mk hv hk⟩
    · exact h.elim
  case binOp bop t x y t2=>
    replace h:=bindL_some h;obtain ⟨ti,hti,h⟩:=h
    replace h:=bindV_some h;obtain ⟨a,ha,h⟩:=h
    replace h:=bindV_some h;obtain ⟨b,hb,h⟩:=h
    simp only [draws,hti] at hd
    obtain ⟨v,hv,hall⟩:=binD_det (fun k hk=>by
      rw [hk] at hd
      cases bop<;>first | rfl | (cases hd)) h
    exact ⟨v,hv,fun w' K' hk=>bindL_mk hti (bindV_mk ha (bindV_mk hb (hall w' K' hk)))⟩
  case unOp uop t x=>
    replace h:=bindV_some h;obtain ⟨v,hv,h⟩:=h
    obtain ⟨u,hu,h⟩:=unD_det h
    exact ⟨u,hu,fun w' K' hk=>bindV_mk hv (h (fun u=>K' u w') hk)⟩
  case convert s d x=>
    replace h:=bindL_some h;obtain ⟨ts,hts,h⟩:=h
    replace h:=bindL_some h;obtain ⟨td,htd,h⟩:=h
    replace h:=bindV_some h;obtain ⟨v,hv,h⟩:=h
    simp only [draws,hts,htd] at hd
    unfold convD at h
    split at h
    · rename_i e1 e2;exact ⟨_,h,fun w' K' hk=>bindL_mk hts (bindL_mk htd (bindV_mk hv (by simp only [convD,e1,e2];exact hk)))⟩
    · rename_i e1 e2;exact ⟨_,h,fun w' K' hk=>bindL_mk hts (bindL_mk htd (bindV_mk hv (by simp only [convD,e1,e2];exact hk)))⟩
    · rename_i e1 e2;rw [e1,e2] at hd;cases hd
    · rename_i e1 e2;exact ⟨_,h,fun w' K' hk=>bindL_mk hts (bindL_mk htd (bindV_mk hv (by simp only [convD,e1,e2];exact hk)))⟩
    · exact h.elim
  case makeFunc fn a b=>
    replace h:=bindL_some h;obtain ⟨va,hva,h⟩:=h
    replace h:=bindL_some h;obtain ⟨vb,hvb,h⟩:=h
    exact ⟨_,h,fun w' K' hk=>bindL_mk hva (bindL_mk hvb hk)⟩
  case slice t x lo hi mx=>
    replace h:=bindL_some h;obtain ⟨ti,hti,h⟩:=h
    replace h:=bindV_some h;obtain ⟨v,hv,h⟩:=h
    replace h:=bindL_some h;obtain ⟨l,hl1,h⟩:=h
    replace h:=bindL_some h;obtain ⟨hh,hh1,h⟩:=h
    replace h:=bindL_some h;obtain ⟨m,hm,h⟩:=h
    split at h
    · rename_i e1
      replace h:=bindL_some h;obtain ⟨s,hs,h⟩:=h
      obtain ⟨u,hu,hall⟩:=sliceD_det h
      exact ⟨u,hu,fun w' K' hk=>bindL_mk hti (bindV_mk hv (bindL_mk hl1 (bindL_mk hh1 (bindL_mk hm (by simp only [e1];exact bindL_mk hs (hall (fun u=>K' u w') hk))))))⟩
    · rename_i e1
      replace h:=optM_some h;obtain ⟨a,ha,h⟩:=h
      replace h:=bindL_some h;obtain ⟨s,hs,h⟩:=h
      obtain ⟨u,hu,hall⟩:=sliceD_det h
      exact ⟨u,hu,fun w' K' hk=>bindL_mk hti (bindV_mk hv (bindL_mk hl1 (bindL_mk hh1 (bindL_mk hm (by simp only [e1];exact optM_mk ha (bindL_mk hs (hall (fun u=>K' u w') hk)))))))⟩
    · exact h.elim
  case fieldAddr t x i=>
    replace h:=bindL_some h;obtain ⟨ti,hti,h⟩:=h
    split at h
    · rename_i fs e1
      replace h:=bindL_some h;obtain ⟨f,hf,h⟩:=h
      replace h:=bindL_some h;obtain ⟨s,hs,h⟩:=h
      rcases cond_or h with ⟨_,h⟩ | ⟨hb,h⟩
      · exact h.elim
      replace h:=bindV_some h;obtain ⟨v,hv,h⟩:=h
      split at h
      · replace h:=optM_some h;obtain ⟨a,ha,h⟩:=h
        exact ⟨_,h,fun w' K' hk=>bindL_mk hti (by simp only [e1];exact bindL_mk hf (bindL_mk hs (by rw [hb];exact bindV_mk hv (optM_mk ha hk))))⟩
      · exact h.elim
    · exact h.elim
  case field t x i=>
    replace h:=bindL_some h;obtain ⟨ti,hti,h⟩:=h
    split at h
    · rename_i fs e1
      replace h:=bindL_some h;obtain ⟨f,hf,h⟩:=h
      replace h:=bindL_some h;obtain ⟨s,hs,h⟩:=h
      replace h:=bindV_some h;obtain ⟨v,hv,h⟩:=h
      split at h
      · rcases cond_or h with ⟨hb,h⟩ | ⟨hb,h⟩
        · exact ⟨_,h,fun w' K' hk=>bindL_mk hti (by simp only [e1];exact bindL_mk hf (bindL_mk hs (bindV_mk hv (by simp only [hb];exact hk))))⟩
        · replace h:=bindL_some h;obtain ⟨u,hu,h⟩:=h
          exact ⟨_,h,fun w' K' hk=>bindL_mk hti (by simp only [e1];exact bindL_mk hf (bindL_mk hs (bindV_mk hv (by simp only [hb];exact bindL_mk hu hk))))⟩
      · exact h.elim
    · exact h.elim
  case indexAddr t x ix=>
    replace h:=bindL_some h;obtain ⟨ti,hti,h⟩:=h
    replace h:=bindV_some h;obtain ⟨v,hv,h⟩:=h
    replace h:=bindV_some h;obtain ⟨vi,hvi,h⟩:=h
    split at h
    · rename_i e1
      replace h:=bindL_some h;obtain ⟨s,hs,h0,h1,h⟩:=h
      replace h:=optM_some h;obtain ⟨a,ha,h⟩:=h
      exact ⟨_,h,fun w' K' hk=>bindL_mk hti (bindV_mk hv (bindV_mk hvi (by simp only [e1];exact bindL_mk hs ⟨h0,h1,optM_mk ha hk⟩)))⟩
    · rename_i e1
      replace h:=bindL_some h;obtain ⟨s,hs,h0,h1,h⟩:=h
      replace h:=optM_some h;obtain ⟨a,ha,h⟩:=h
      exact ⟨_,h,fun w' K' hk=>bindL_mk hti (bindV_mk hv (bindV_mk hvi (by simp only [e1];exact bindL_mk hs ⟨h0,h1,optM_mk ha hk⟩)))⟩
    · exact h.elim
  case index t x ix=>
    replace h:=bindL_some h;obtain ⟨ti,hti,h⟩:=h
    replace h:=bindV_some h;obtain ⟨v,hv,h⟩:=h
    replace h:=bindV_some h;obtain ⟨vi,hvi,h⟩:=h
    split at h
    · rename_i e1
      replace h:=bindL_some h;obtain ⟨te,hte,h⟩:=h
      rcases cond_or h with ⟨_,h⟩ | ⟨hb,h0,h1,u,hu,h⟩
      · exact h.elim
      exact ⟨_,h,fun w' K' hk=>bindL_mk hti (bindV_mk hv (bindV_mk hvi (by simp only [e1];exact bindL_mk hte (by rw [hb];exact ⟨h0,h1,u,hu,hk⟩))))⟩
    · rename_i e1
      obtain ⟨h0,b,hb,h⟩:=h
      exact ⟨_,h,fun w' K' hk=>bindL_mk hti (bindV_mk hv (bindV_mk hvi (by simp only [e1];exact ⟨h0,b,hb,hk⟩)))⟩
    · exact h.elim
  case extract x i=>
    replace h:=bindV_some h;obtain ⟨v,hv,h⟩:=h
    split at h
    · replace h:=bindL_some h;obtain ⟨u,hu,h⟩:=h
      exact ⟨_,h,fun w' K' hk=>bindV_mk hv (bindL_mk hu hk)⟩
    · exact h.elim
  case call c=>
    replace h:=bindL_some h;obtain ⟨args,hargs,h⟩:=h
    obtain ⟨callee,cargs,ts⟩:=c
    cases callee<;>simp only [quiet] at hq<;>(try (cases hq;done))
    rename_i b
    have h':builtinD T b ts.toList args w fun v _=>K v:=h
    suffices hs:∃ v,K v∧∀ (w':World) (K':Value→World→Prop),K' v w'→builtinD T b ts.toList args w' K' by
      obtain ⟨v,hv,hall⟩:=hs
      exact ⟨v,hv,fun w' K' hk=>bindL_mk hargs (hall w' K' hk)⟩
    cases b<;>simp only [quietB] at hq<;>(try (cases hq;done))<;>simp only [draws] at hd<;>(try (cases hd;done))
    case cap=>exact cap_det h'
    case len=>exact len_det h'
theorem binD_any {ti:TI} {op:BinOp} {x y:Value} {w:World} {K:Value→Prop} (h:binD ti op x y w fun v _=>K v) (w':World):binD ti op x y w' fun v w1=>K v∧∃ m,w1=w'.drewN m:=by
  by_cases hf:∃ a b k,x = .float .f64 a∧y = .float .f64 b∧ti.d = .float k
  · obtain ⟨a,b,k,rfl,rfl,hk⟩:=hf
    simp only [binD,hk] at h ⊢
    cases op<;>simp only [binFlt,FRes] at h ⊢ <;> (try exact h.elim)<;>first | exact ⟨h,0,rfl⟩ | exact fun r d hr=>⟨h r d hr,d,rfl⟩
  · unfold binD at h
    split at h
    · split at h
      · exact ⟨h.1,h.2,0,rfl⟩
      · exact ⟨h.1,h.2,0,rfl⟩
      · rename_i op' h1 h2
        obtain ⟨hk,h'⟩:=cond_true h
        obtain ⟨v,hv,hb⟩:=binInt_det h'
        have hb':=hb (fun u=>K u∧∃ m,w'=w'.drewN m) ⟨hv,0,rfl⟩
        unfold binD
        cases op<;>first | exact cond_mk hk hb' | exact (h1 rfl).elim | exact (h2 rfl).elim
    · split at h
      · rename_i k hb
        exact absurd ⟨_,_,k,rfl,rfl,hb⟩ hf
      · exact h.elim
    · split at h
      · rename_i hb
        split at h<;>first | (simp only [binD,hb];exact ⟨h,0,rfl⟩) | exact h.elim
      · exact h.elim
    · split at h
      · rename_i hb
        split at h<;>first | (simp only [binD,hb];exact ⟨h,0,rfl⟩) | exact h.elim
      · exact h.elim
    · split at h
      · rename_i hb
        split at h<;>first | (simp only [binD,hb];exact ⟨h,0,rfl⟩) | exact h.elim
      · exact h.elim
    · split at h<;>first | exact ⟨h,0,rfl⟩ | exact h.elim
    · rename_i xs ys _
      obtain ⟨he,h⟩:=cond_true h
      unfold eq3D at h
      split at h
      · rename_i hx hy
        split at h<;>first | (simp only [binD,eq3D,he,hx,hy,cond];exact ⟨h,0,rfl⟩) | exact h.elim
      · exact h.elim
    · exact h.elim
theorem convD_any {s d:TD} {x:Value} {w:World} {K:Value→Prop} (h:convD s d x w fun v _=>K v) (w':World):convD s d x w' fun v w1=>K v∧∃ m,w1=w'.drewN m:=by
  unfold convD at h ⊢
  split at h
  · exact ⟨h,0,rfl⟩
  · exact ⟨h,0,rfl⟩
  · exact ⟨fun n hn=>⟨h.1 n hn,0,rfl⟩,fun hn n d hw=>⟨h.2 hn n d hw,d,rfl⟩⟩
  · exact ⟨h,0,rfl⟩
  · exact h.elim
theorem mm2_any {b:Bool} {x y:Value} {w:World} {K:Value→Prop} (h:mm2 b x y w fun v _=>K v) (w':World):mm2 b x y w' fun v w1=>K v∧∃ m,w1=w'.drewN m:=by
  unfold mm2 at h ⊢
  split at h
  · obtain ⟨hk,h⟩:=cond_true h
    exact cond_mk hk ⟨h,0,rfl⟩
  · rename_i p q
    unfold fmaxD at h ⊢
    cases ho:Ieee.double.order p q with
    | none=>rw [ho] at h;exact fun r d hr=>⟨h r d hr,d,rfl⟩
    | some o=>rw [ho] at h;cases o<;>exact ⟨h,0,rfl⟩
  · exact h.elim
theorem mm2_mono {b:Bool} {x y:Value} {w:World} {K K':Value→World→Prop} (hk:∀ v w,K v w→K' v w) (h:mm2 b x y w K):mm2 b x y w K':=by
  unfold mm2 at h ⊢
  split at h
  · obtain ⟨hb,h⟩:=cond_true h
    exact cond_mk hb (hk _ _ h)
  · rename_i p q
    unfold fmaxD at h ⊢
    cases ho:Ieee.double.order p q with
    | none=>rw [ho] at h;exact fun r d hr=>hk _ _ (h r d hr)
    | some o=>rw [ho] at h;cases o<;>exact hk _ _ h
  · exact h.elim
theorem mmD_mono {b:Bool}:∀ {ys:List Value} {x:Value} {w:World} {K K':Value→World→Prop},(∀ v w,K v w→K' v w)→mmD b x ys w K→mmD b x ys w K'
  | [],_,_,_,_,hk,h=>hk _ _ h
  | _::_,_,_,_,_,hk,h=>mm2_mono (fun _ _ h=>mmD_mono hk h) h
theorem mmD_any {b:Bool}:∀ {ys:List Value} {x:Value} {w:World} {K:Value→Prop},mmD b x ys w (fun v _=>K v)→∀ w',mmD b x ys w' fun v w1=>K v∧∃ m,w1=w'.drewN m
  | [],x,w,K,h,w'=>⟨h,0,rfl⟩
  | y::ys,x,w,K,h,w'=>by
    have h1:mm2 b x y w fun v _=>∀ w'',mmD b v ys w'' fun v w1=>K v∧∃ m,w1=w''.drewN m:=mm2_mono (fun v w1 h=>mmD_any h) h
    refine mm2_mono (fun v w1 hh=>?_) (mm2_any h1 w')
    obtain ⟨hh,m,rfl⟩:=hh
    refine mmD_mono (fun v w1 hh=>?_) (hh (w'.drewN m))
    obtain ⟨hk,m',rfl⟩:=hh
    exact ⟨hk,m+m',by rw [World.drewN_drewN]⟩
theorem opD_any {e:Env} {ty:Nat} {op:Op} {w:World} {K:Value→Prop} (hq:quiet op=true) (hl:∀ t a,op ≠ .load t a) (h:opD P T e ty op w fun v _=>K v) (w':World) :
    opD P T e ty op w' fun v w1=>K v∧∃ m,w1=w'.drewN m:=by
  by_cases hd:draws T op=false
  · obtain ⟨v,hv,hall⟩:=opD_det hq hl hd h
    exact hall w' _ ⟨hv,0,rfl⟩
  · cases op<;>(try (cases hq;done))<;>(try exact absurd rfl hd)
    case binOp bop t x y t2=>
      replace h:=bindL_some h
      obtain ⟨ti,hti,h⟩:=h
      replace h:=bindV_some h
      obtain ⟨a,ha,h⟩:=h
      replace h:=bindV_some h
      obtain ⟨b,hb,h⟩:=h
      exact bindL_mk hti (bindV_mk ha (bindV_mk hb (binD_any h w')))
    case convert s d x=>
      replace h:=bindL_some h
      obtain ⟨ts,hts,h⟩:=h
      replace h:=bindL_some h
      obtain ⟨td,htd,h⟩:=h
      replace h:=bindV_some h
      obtain ⟨v,hv,h⟩:=h
      exact bindL_mk hts (bindL_mk htd (bindV_mk hv (convD_any h w')))
    case call c=>
      replace h:=bindL_some h
      obtain ⟨args,hargs,h⟩:=h
      obtain ⟨callee,cargs,ts⟩:=c
      cases callee<;>simp only [quiet] at hq<;>(try (cases hq;done))
      rename_i b
      have h':builtinD T b ts.toList args w fun v _=>K v:=h
      suffices hs:builtinD T b ts.toList args w' fun v w1=>K v∧∃ m,w1=w'.drewN m from bindL_mk hargs hs
      clear h
      cases b<;>simp only [quietB] at hq<;>(try (cases hq;done))<;>(try exact absurd rfl hd)
      all_goals (
        unfold builtinD at h'
        split at h'<;>(try (rename_i hx;cases hx;done))<;>(try exact h'.elim)
        exact mmD_any h' w')
end
end Go.Eng
/-
  A region whose order Go leaves open, read in one order: sound for every order. No condition but that the table of types is the program's.
-/
namespace Go.Eng
open Go
section
variable {P:Program} {T:Nat→Option TI} {n:Nat} {Q:Exit→Act→World→Prop}
def factsOk (H:List Fact) (w:World):Prop:=∀ f∈H,w.cell? f.2.1=some f.2.2
theorem ldCs_facts {k:Nat}:∀ {cs:List Ce} {a:Addr} {i:Nat} {w:World} {K:List Value→Prop},ldCs cs a i w K →
    ∃ vs:List Value,K vs∧factsOk (factsFrom k a i vs) w∧∀ (w':World) (K':List Value→Prop),factsOk (factsFrom k a i vs) w'→K' vs→ldCs cs a i w' K'
  | [],a,i,w,K,h=>⟨[],h,by simp [factsFrom,factsOk],fun w' K' _ hk=>hk⟩
  | c::cs,a,i,w,K,h=>by
    have key:∃ v,(w.cell? (a.add i)=some v∧ldCs cs a (i+1) w fun vs=>K (v::vs))∧∀ (w':World) (K':Value→Prop),w'.cell? (a.add i)=some v→K' v→ldC c w' (a.add i) K':=by
      unfold ldCs ldC at h
      cases c<;>simp only [Ce.ex] at h
      case slice=>obtain ⟨x,y,z,h⟩:=h;exact ⟨_,h,fun w' K' h1 h2=>⟨x,y,z,h1,h2⟩⟩
      all_goals (obtain ⟨x,h⟩:=h;exact ⟨_,h,fun w' K' h1 h2=>⟨x,h1,h2⟩⟩)
    obtain ⟨v,⟨hv,h⟩,hre⟩:=key
    obtain ⟨vs,hk,hf,hall⟩:=ldCs_facts (k:=k) h
    refine ⟨v::vs,hk,?_,fun w' K' hf' hk'=>?_⟩
    · intro f hfm
      rcases List.mem_cons.1 hfm with rfl | hfm
      · exact hv
      · exact hf f hfm
    · exact hre w' _ (hf' _ (List.mem_cons_self ..)) (hall w' _ (fun f hfm=>hf' f (List.mem_cons_of_mem _ hfm)) hk')
theorem factsFrom_k {k:Nat} {a:Addr}:∀ {vs:List Value} {i:Nat},∀ f∈factsFrom k a i vs,f.1=k
  | [],_,f,h=>by cases h
  | v::vs,i,f,h=>by
    rcases List.mem_cons.1 h with rfl | h
    · rfl
    · exact factsFrom_k f h
theorem ldC_key {c:Ce} {w:World} {x:Addr} {K:Value→Prop} (h:ldC c w x K):∃ v,w.cell? x=some v∧K v∧∀ (w':World) (K':Value→Prop),w'.cell? x=some v→K' v→ldC c w' x K':=by
  unfold ldC at h ⊢
  cases c<;>simp only [Ce.ex] at h ⊢
  case slice=>obtain ⟨x,y,z,h⟩:=h;exact ⟨_,h.1,h.2,fun w' K' h1 h2=>⟨x,y,z,h1,h2⟩⟩
  all_goals (obtain ⟨x,h⟩:=h;exact ⟨_,h.1,h.2,fun w' K' h1 h2=>⟨x,h1,h2⟩⟩)
theorem loadD_mk {ti:TI} {a:Addr} {w:World} {K:Value→Prop} (h:cond ti.d.isAgg (ldCs (ces (vcells ti.zero)) a 0 w fun vs=>K (.agg vs.toArray)) (ldC (Ce.of ti.zero) w a K)):loadD ti (.pointer (some a)) w K:=h
theorem quietD_ok {e:Env} {k ty:Nat} {op:Op} {w:World} {K:Value→List Fact→Prop} (hq:quiet op=true) (h:quietD P T e k ty op w K) :
    ∃ (S:Value→Prop) (H:List Fact),(∀ v,S v→K v H)∧factsOk H w∧(∀ f∈H,f.1=k) ∧
      (∀ w',factsOk H w'→opD P T e ty op w' fun v w1=>S v∧∃ m,w1=w'.drewN m)∧(draws T op=false→∀ v v',S v→S v'→v=v'):=by
  by_cases hl:∃ t a,op = .load t a
  · obtain ⟨t,a,rfl⟩:=hl
    have h':bindL (T t) fun ti=>bindV (ev e a) fun p=>loadF k ti p w K:=h
    replace h':=bindL_some h'
    obtain ⟨ti,hti,h'⟩:=h'
    replace h':=bindV_some h'
    obtain ⟨p,hp,h'⟩:=h'
    obtain ⟨o,rfl⟩:∃ o,p = .pointer o:=by cases p<;>first | exact ⟨_,rfl⟩ | exact (show False from h').elim
    have h2:optM o fun a=>cond ti.d.isAgg (ldCs (ces (vcells ti.zero)) a 0 w fun vs=>K (.agg vs.toArray) (factsFrom k a 0 vs)) (ldC (Ce.of ti.zero) w a fun v=>K v [(k,a,v)]):=h'
    obtain ⟨x,rfl,h2⟩:=optM_some h2
    rcases cond_or h2 with ⟨hb,h2⟩ | ⟨hb,h2⟩
    · obtain ⟨vs,hk,hf,hall⟩:=ldCs_facts (k:=k) h2
      refine ⟨fun v=>v = .agg vs.toArray,factsFrom k x 0 vs,fun v hv=>by subst hv;exact hk,hf,factsFrom_k,fun w' hf'=>?_,fun _ v v' h1 h2=>h1.trans h2.symm⟩
      refine bindL_mk hti (bindV_mk hp (loadD_mk ?_))
      rw [hb]
      exact hall w' _ hf' ⟨rfl,0,rfl⟩
    · obtain ⟨v,hv,hk,hall⟩:=ldC_key h2
      refine ⟨fun u=>u=v,[(k,x,v)],fun u hu=>by subst hu;exact hk,?_,?_,fun w' hf'=>?_,fun _ v v' h1 h2=>h1.trans h2.symm⟩
      · intro f hf;simp at hf;subst hf;exact hv
      · intro f hf;simp at hf;subst hf;rfl
      · refine bindL_mk hti (bindV_mk hp (loadD_mk ?_))
        rw [hb]
        exact hall w' _ (hf' _ (List.mem_singleton.2 rfl)) ⟨rfl,0,rfl⟩
  · have hl':∀ t a,op ≠ .load t a:=fun t a he=>hl ⟨t,a,he⟩
    have h':opD P T e ty op w fun v _=>K v []:=by
      cases op<;>first | exact h | exact absurd rfl (hl' _ _)
    by_cases hd:draws T op=false
    · obtain ⟨v,hv,hall⟩:=opD_det hq hl' hd h'
      exact ⟨fun u=>u=v,[],fun u hu=>by subst hu;exact hv,(by intro f hf;cases hf),(by intro f hf;cases hf),fun w' _=>hall w' _ ⟨rfl,0,rfl⟩,fun _ v v' h1 h2=>h1.trans h2.symm⟩
    · exact ⟨fun u=>K u [],[],fun u hu=>hu,(by intro f hf;cases hf),(by intro f hf;cases hf),fun w' _=>opD_any hq hl' h' w',fun h=>absurd h hd⟩
theorem setD_rel {e:Env} {a:Act} (h:Rel n e a) {d:Option Nat} {v:Value} {K:Env→Prop} (hk:setD n e d v K):∃ e',Rel n e' (a.put d v)∧K e':=setD_ok h hk
theorem operQ_ok (hT:TOk P T) (hZ:TSize T) {ops:List Oper} {k:Nat} {o:Oper} {e:Env} {a:Act} {w:World} {K:Env→List Fact→Prop} (hr:Rel n e a) (hq:quiet o.op=true)
    (h:operQ P T n ops k o e w K) :
    ∃ (S:Value→Prop) (H:List Fact),(∀ v,S v→∃ e',Rel n e' (a.put o.dst v)∧K e' H)∧factsOk H w∧(∀ f∈H,f.1=k) ∧
      ((Region.wanted o (yielded ops.toArray a.tmps)=true∧∀ w',factsOk H w'→∃ v m,(execOp a.eval o).run P w' = .ok (.value v) (w'.drewN m)∧S v) ∨
        (Region.wanted o (yielded ops.toArray a.tmps)=false∧S undef))∧(draws T o.op=false→∀ v v',S v→S v'→v=v'):=by
  have run:∀ {e:Env} (_:Rel n e a) {S:Value→Prop} {w':World},(opD P T e o.type o.op w' fun v w1=>S v∧∃ m,w1=w'.drewN m)→∃ v m,(execOp a.eval o).run P w' = .ok (.value v) (w'.drewN m)∧S v:=by
    intro e hr S w' h
    have h1:=opD_ok hT hZ hr.ev h
    have h2:=quiet_run (P:=P) hq a.eval w'
    generalize (execOp a.eval o).run P w'=r at *
    unfold Out at h1
    split at h1
    · obtain ⟨hs,m,rfl⟩:=h1;exact ⟨_,m,rfl,hs⟩
    · exact h2.elim
    · exact h2.elim
    · exact h1.elim
  unfold operQ at h
  cases hg:o.guard with
  | none=>
    simp only [hg] at h
    obtain ⟨S,H,h1,h2,h3,h4,h5⟩:=quietD_ok hq h
    exact ⟨S,H,fun v hv=>setD_rel hr (h1 v hv),h2,h3,.inl ⟨by simp [Region.wanted,hg],fun w' hf=>run hr (h4 w' hf)⟩,h5⟩
  | some g=>
    obtain ⟨j,want⟩:=g
    simp only [hg] at h
    replace h:=bindL_some h
    obtain ⟨t,ht,h⟩:=h
    split at h
    · rename_i b hb
      have hy:=yield_bool hr ht hb
      have hwd:Region.wanted o (yielded ops.toArray a.tmps)=(b==want):=by simp [Region.wanted,hg,hy]
      rw [hwd]
      have hval:=hr.vals t _ hb
      rcases cond_or h with ⟨hc,h'⟩ | ⟨hc,h'⟩
      · have hbw:b=want:=by cases want<;>cases b<;>simp_all
        subst hbw
        have hr':=hr.upd_same hval
        obtain ⟨S,H,h1,h2,h3,h4,h5⟩:=quietD_ok hq h'
        exact ⟨S,H,fun v hv=>setD_rel hr' (h1 v hv),h2,h3,.inl ⟨by simp,fun w' hf=>run hr' (h4 w' hf)⟩,h5⟩
      · have hbw:b = !want:=by cases want<;>cases b<;>simp_all
        subst hbw
        have hr':=hr.upd_same hval
        exact ⟨fun u=>u=undef,[],fun v hv=>by subst hv;exact setD_rel hr' h',(by intro f hf;cases hf),(by intro f hf;cases hf),.inr ⟨by simp,rfl⟩,fun _ v v' h1 h2=>h1.trans h2.symm⟩
    · rename_i v hv hnb
      have hy:=yield_none hr ht hnb (fun b hb=>hv b hb)
      exact ⟨fun u=>u=undef,[],fun v hv=>by subst hv;exact setD_rel hr h,(by intro f hf;cases hf),(by intro f hf;cases hf),.inr ⟨by simp [Region.wanted,hg,hy],rfl⟩,fun _ v v' h1 h2=>h1.trans h2.symm⟩
    · exact h.elim
def Cof (ops:Array Oper) (H:List Fact) (l:Array Bool) (w:World):Prop:=
  ∀ f∈H,(∀ d od,ops[d]?=some od→quiet od.op=false→l.getD d false=true→waitsFar ops f.1 4 od=false)→w.cell? f.2.1=some f.2.2
theorem waits_spec {o:Oper} {i:Nat}:waits o i=true↔∃ e∈o.after,Region.binds .any e=true∧e.on=i:=by
  unfold waits
  simp only [List.any_eq_true]
  constructor
  · rintro ⟨e,he,h⟩
    cases hb:Region.binds .any e with
    | false=>rw [hb] at h;simp at h
    | true=>rw [hb] at h;exact ⟨e,by simpa using he,hb,Nat.eq_of_beq_eq_true h⟩
  · rintro ⟨e,he,hb,rfl⟩
    exact ⟨e,by simpa using he,by simp [hb]⟩
theorem heldK_spec:∀ {H:List Fact} {w:World} {K:Prop},heldK H w K→factsOk H w∧K
  | [],w,K,h=>⟨(by intro f hf;cases hf),h⟩
  | f::H,w,K,h=>by
    obtain ⟨h1,h2⟩:=heldK_spec h.2
    refine ⟨fun g hg=>?_,h2⟩
    rcases List.mem_cons.1 hg with rfl | hg
    · exact h.1
    · exact h1 g hg
theorem mem_dropF {ops:Array Oper} {o:Oper}:∀ {H:List Fact} {f:Fact},f∈H→waitsFar ops f.1 4 o=false→f∈dropF ops o H
  | g::H,f,hf,hw=>by
    simp only [dropF]
    rcases List.mem_cons.1 hf with rfl | hf
    · rw [hw];exact List.mem_cons_self ..
    · have:=mem_dropF hf hw
      cases waitsFar ops g.1 4 o
      · exact List.mem_cons_of_mem _ this
      · exact this
theorem waitsFar_spec {ops:Array Oper} {k:Nat}:∀ (f:Nat) {o:Oper},waitsFar ops k f o=true→∃ e∈o.after,Region.binds .any e=true∧Beh ops k e.on
  | 0,o,h=>by
    obtain ⟨e,he,hb,hon⟩:=waits_spec.1 h
    exact ⟨e,he,hb,by rw [hon];exact .self⟩
  | f+1,o,h=>by
    unfold waitsFar at h
    rcases Bool.or_eq_true_iff.1 h with h | h
    · obtain ⟨e,he,hb,hon⟩:=waits_spec.1 h
      exact ⟨e,he,hb,by rw [hon];exact .self⟩
    · obtain ⟨e,he,h⟩:=List.any_eq_true.1 h
      cases hb:Region.binds .any e with
      | false=>rw [hb] at h;cases h
      | true=>
        rw [hb] at h
        cases hp:ops[e.on]? with
        | none=>rw [hp] at h;cases h
        | some p=>
          rw [hp] at h
          obtain ⟨e2,he2,hb2,hbe⟩:=waitsFar_spec f h
          exact ⟨e,by simpa using he,hb,.step hp he2 hb2 hbe⟩
theorem onlyQuiet_spec {ops:Array Oper} {l:Array Bool} {k:Nat} (h:onlyQuiet ops l k=true) (j:Nat) (oj:Oper) (hj:ops[j]?=some oj) (hun:l.getD j true=false) (_:j≠k)
    (hno:∀ e∈oj.after,Region.binds .any e=true → ¬ Beh ops k e.on):quiet oj.op=true:=by
  unfold onlyQuiet at h
  have:=List.all_eq_true.1 h j (List.mem_range.2 (Array.getElem?_eq_some_iff.1 hj).1)
  rw [hun,hj] at this
  simp only [Bool.false_or,Bool.or_eq_true] at this
  rcases this with h | h
  · exact h
  · obtain ⟨e,he,hb,hbe⟩:=waitsFar_spec 4 h
    exact absurd hbe (hno e he hb)
theorem opsO_ok (hT:TOk P T) (hZ:TSize T) {ops:List Oper} {K:Env→World→Prop} {p:Nat→Prop} {a0:Act} (hsel:Region.noSelect ops.toArray=true) (hQp:∀ c a w,¬ Q (.panic c) a w)
    (hp:∀ o∈ops,∀ t,o.dst=some t→p t) (hQ:∀ e' a' w',Rel n e' a'→Fr p a0 a'→K e' w'→Q .normal a' w') :
    ∀ (fuel:Nat) (ord:Ord) (listed:Array Bool) (H:List Fact) (e:Env) (a:Act) (w:World),closedL ops.toArray listed→Rel n e a→Fr p a0 a→Cof ops.toArray H listed w→opsO P T n ops ord H e w K →
      (ordOk T ops.toArray ord true fuel listed=true→wpC P ops.toArray Q (Cof ops.toArray H) fuel listed a w) ∧
      (∀ f,fuel=f+1→ordOk T ops.toArray ord false fuel listed=true→∀ k∈heads ord,k∈Region.ready .any ops.toArray listed→∀ m,wpOp P ops.toArray Q k (fun a' w'=>Cof ops.toArray H (listed.setIfInBounds k true) w'∧wpC P ops.toArray Q (Cof ops.toArray H) f (listed.setIfInBounds k true) a' w') a (w.drewN m)):=by
  intro fuel
  induction fuel with
  | zero=>
    intro ord
    induction ord with
    | done=>
      intro listed H e a w hcl hr hf hC h
      refine ⟨fun hB=>?_,fun f hf=>by cases hf⟩
      simp only [ordOk,Bool.and_eq_true] at hB
      exact ⟨by simpa using hB.2,fun m=>hQ _ _ _ hr hf (h m)⟩
    | q k r _=>intro listed H e a w hcl hr hf hC h;exact ⟨fun hB=>by simp [ordOk] at hB,fun f hf=>by cases hf⟩
    | e k r _=>intro listed H e a w hcl hr hf hC h;exact ⟨fun hB=>by simp [ordOk] at hB,fun f hf=>by cases hf⟩
    | alt x y ihx ihy=>
      intro listed H e a w hcl hr hf hC h
      refine ⟨fun hB=>?_,fun f hf=>by cases hf⟩
      simp only [ordOk,Bool.and_eq_true] at hB
      -- a branch without fuel is none
      have none_:∀ o:Ord,ordOk T ops.toArray o false 0 listed=true→False:=by
        intro o
        induction o with
        | done=>intro h;simp [ordOk] at h
        | q k r _=>intro h;simp [ordOk] at h
        | e k r _=>intro h;simp [ordOk] at h
        | alt x y ihx _=>intro h;simp only [ordOk,Bool.and_eq_true] at h;exact ihx h.1.2
      exact (none_ x hB.1.2).elim
  | succ fuel ih=>
    -- what acts
    have actE:∀ (k:Nat) (r:Ord) (listed:Array Bool) (H:List Fact) (e:Env) (a:Act) (w:World),closedL ops.toArray listed→Rel n e a→Fr p a0 a→opsO P T n ops (.e k r) H e w K →
        ordOk T ops.toArray r true fuel (listed.setIfInBounds k true)=true→k∈Region.ready .any ops.toArray listed →
        ∀ m,wpOp P ops.toArray Q k (fun a' w'=>Cof ops.toArray H (listed.setIfInBounds k true) w'∧wpC P ops.toArray Q (Cof ops.toArray H) fuel (listed.setIfInBounds k true) a' w') a (w.drewN m):=by
      intro k r listed H e a w hcl hr hf h hB hrd m
      obtain ⟨o,ho,h⟩:=bindL_some h
      rw [nth_eq] at ho
      have ho':ops.toArray[k]?=some o:=by simpa using ho
      have hmem:o∈ops:=List.mem_of_getElem? ho
      have hclk:=hcl.set hrd
      have hlt:k<listed.size:=by
        have:=(mem_ready.1 hrd).1
        rcases Nat.lt_or_ge k listed.size with h' | h'
        · exact h'
        · simp [Array.getElem?_eq_none h'] at this
      have hkl:(listed.setIfInBounds k true).getD k false=true:=by simp [hlt]
      have fin:∀ e' (v:Value) w',Rel n e' (a.put o.dst v)→(heldK (dropE ops.toArray o H) w' (opsO P T n ops r (dropE ops.toArray o H) e' w' K)) →
          Cof ops.toArray H (listed.setIfInBounds k true) w'∧wpC P ops.toArray Q (Cof ops.toArray H) fuel (listed.setIfInBounds k true) (a.put o.dst v) w':=by
        intro e' v w' hr' hh
        obtain ⟨hfo,hh⟩:=heldK_spec hh
        have imp:∀ l w,Ext (listed.setIfInBounds k true) l→Cof ops.toArray (dropE ops.toArray o H) l w→Cof ops.toArray H l w:=by
          intro l w hx hc f hfm hact
          cases hnq:quiet o.op with
          | true=>exact hc f (by unfold dropE;rw [hnq];exact hfm) hact
          | false=>
            have hw:waitsFar ops.toArray f.1 4 o=false:=hact k o ho' hnq (hx k hkl)
            exact hc f (by unfold dropE;rw [hnq];exact mem_dropF hfm hw) hact
        have hC':Cof ops.toArray (dropE ops.toArray o H) (listed.setIfInBounds k true) w':=fun f hfm _=>hfo f hfm
        refine ⟨imp _ _ (Ext.refl _) hC',?_⟩
        have:=(ih r (listed.setIfInBounds k true) (dropE ops.toArray o H) e' (a.put o.dst v) w' hclk hr' (hf.trans (Fr.put (fun t ht=>hp o hmem t ht) v)) hC' hh).1 hB
        exact wpC_mono fuel _ _ _ _ (Ext.refl _) imp this
      have:=operD_ok (Q:=Q) (next:=fun a' w'=>Cof ops.toArray H (listed.setIfInBounds k true) w'∧wpC P ops.toArray Q (Cof ops.toArray H) fuel (listed.setIfInBounds k true) a' w') hT hZ hr (h m) fun e' v w' hr' hkk=>fin e' v w' hr' hkk
      unfold wpOp
      simp only [ho']
      split
      · rename_i hw;rw [if_pos hw] at this;exact .inl this
      · rename_i hw;rw [if_neg hw] at this;exact this
    intro ord
    induction ord with
    | done=>intro listed H e a w hcl hr hf hC h;exact ⟨fun hB=>by simp [ordOk] at hB,fun f hf hB k hk=>by cases hk⟩
    | q k r _=>
      intro listed H e a w hcl hr hf hC h
      refine ⟨fun hB=>?_,fun f hf hB k hk=>by cases hk⟩
      simp only [ordOk,Bool.and_eq_true,Bool.true_and] at hB
      obtain ⟨⟨⟨hrd,hfree⟩,hq⟩,hB'⟩:=hB
      have hrd':k∈Region.ready .any ops.toArray listed:=by simpa using hrd
      obtain ⟨o,ho,h⟩:=bindL_some h
      rw [nth_eq] at ho
      have ho':ops.toArray[k]?=some o:=by simpa using ho
      rw [ho'] at hq
      simp only [Bool.and_eq_true,Bool.or_eq_true] at hq
      obtain ⟨hq1,hq2⟩:=hq
      have hmem:o∈ops:=List.mem_of_getElem? ho
      obtain ⟨S,F,h1,h2,h3,h4,h5⟩:=operQ_ok hT hZ hr hq1 h
      have hne:∃ v,S v:=by
        rcases h4 with ⟨_,h4⟩ | ⟨_,h4⟩
        · obtain ⟨v,_,_,hv⟩:=h4 w h2;exact ⟨v,hv⟩
        · exact ⟨_,h4⟩
      have hclk:=hcl.set hrd'
      have hCi:∀ l w,Cof ops.toArray (F++H) (l.setIfInBounds k true) w↔Cof ops.toArray (F++H) l w:=by
        intro l w
        have keep:∀ d od,ops.toArray[d]?=some od→quiet od.op=false→(l.setIfInBounds k true).getD d false=l.getD d false:=by
          intro d od hd hnq
          have hdk:k≠d:=by
            intro e;subst e
            rw [ho'] at hd;cases hd
            rw [hq1] at hnq;cases hnq
          exact getD_set_ne false hdk
        constructor
        · intro hc f hfm hact
          exact hc f hfm fun d od hd hnq hl=>hact d od hd hnq (by rw [keep d od hd hnq] at hl;exact hl)
        · intro hc f hfm hact
          exact hc f hfm fun d od hd hnq hl=>hact d od hd hnq (by rw [keep d od hd hnq];exact hl)
      have hCF:Cof ops.toArray (F++H) listed w:=by
        intro f hfm hact
        rcases List.mem_append.1 hfm with hfm | hfm
        · exact h2 f hfm
        · exact hC f hfm hact
      refine wpC_mono (C':=Cof ops.toArray (F++H)) (fuel+1) listed listed a w (Ext.refl _) (fun l w _ hc f hfm=>hc f (List.mem_append_right _ hfm)) ?_
      refine wpC_first (S:=S) ho' (Region.noSelect_spec hsel) (fun l w n hc f hfm hact=>hc f hfm hact) hCi hQp hne fuel listed a w ?_ (Region.free_spec ho' hfree) hrd' hcl hCF ?_ ?_
      · rcases hq2 with hq2 | hq2
        · exact .inl (h5 (by simpa using hq2))
        · exact .inr (onlyQuiet_spec hq2)
      · rcases h4 with ⟨hw,h4⟩ | ⟨hw,h4⟩
        · refine .inl ⟨hw,fun l w' hcl' hun hc=>?_⟩
          obtain ⟨v,m,hrun,hv⟩:=h4 w' fun f hfm=>hc f (List.mem_append_left _ hfm) fun d od hd hnq hl=>by
            cases hwt:waitsFar ops.toArray f.1 4 od with
            | false=>rfl
            | true=>
              exfalso
              obtain ⟨ed,hed,hb,hbe⟩:=waitsFar_spec 4 hwt
              have h1:=hcl' d od hd hl ed hed hb
              rw [h3 f hfm] at hbe
              rw [hbe.unlisted hcl' hun] at h1
              cases h1
          exact ⟨v,m,hrun,hv⟩
        · exact .inr ⟨hw,h4⟩
      · intro v hv
        obtain ⟨e',hr',hk⟩:=h1 v hv
        exact (ih r (listed.setIfInBounds k true) (F++H) e' (a.put o.dst v) w hclk hr' (hf.trans (Fr.put (fun t ht=>hp o hmem t ht) v)) ((hCi _ _).2 hCF) hk).1 hB'
    | e k r _=>
      intro listed H e a w hcl hr hf hC h
      have body:∀ chk,ordOk T ops.toArray (.e k r) chk (fuel+1) listed=true→ordOk T ops.toArray r true fuel (listed.setIfInBounds k true)=true:=by
        intro chk hB
        simp only [ordOk,Bool.and_eq_true] at hB
        exact hB.2
      refine ⟨fun hB m=>?_,fun f hfu hB k' hk' hrd m=>?_⟩
      · have hb:=body true hB
        simp only [ordOk,Bool.and_eq_true] at hB
        have hall:=hB.1.1
        simp only [Bool.not_true,Bool.false_or,Bool.and_eq_true,List.all_eq_true] at hall
        replace hall:=hall.2
        have only:∀ j∈Region.ready .any ops.toArray listed,j=k:=fun j hj=>by have:=hall j hj;simpa using this
        refine ⟨fun hnil=>?_,fun i hi=>?_⟩
        · have hne:=hB.1.1
          rw [hnil] at hne
          simp at hne
        · obtain rfl:=only i hi
          exact actE i r listed H e a w hcl hr hf h hb hi m
      · have hb:=body false hB
        simp only [heads,List.mem_singleton] at hk'
        subst hk'
        cases hfu
        exact actE k' r listed H e a w hcl hr hf h hb hrd m
    | alt x y ihx ihy=>
      intro listed H e a w hcl hr hf hC h
      obtain ⟨h1,h2⟩:=h
      have hx:=ihx listed H e a w hcl hr hf hC h1
      have hy:=ihy listed H e a w hcl hr hf hC h2
      have both:∀ chk,ordOk T ops.toArray (.alt x y) chk (fuel+1) listed=true→∀ k∈heads (.alt x y),k∈Region.ready .any ops.toArray listed→∀ m,wpOp P ops.toArray Q k (fun a' w'=>Cof ops.toArray H (listed.setIfInBounds k true) w'∧wpC P ops.toArray Q (Cof ops.toArray H) fuel (listed.setIfInBounds k true) a' w') a (w.drewN m):=by
        intro chk hB k hk hrd m
        simp only [ordOk,Bool.and_eq_true] at hB
        rcases List.mem_append.1 hk with hk | hk
        · exact hx.2 fuel rfl hB.1.2 k hk hrd m
        · exact hy.2 fuel rfl hB.2 k hk hrd m
      refine ⟨fun hB m=>?_,fun f hfu hB k hk hrd m=>by cases hfu;exact both false hB k hk hrd m⟩
      have hb:=both true hB
      simp only [ordOk,Bool.and_eq_true] at hB
      have hall:=hB.1.1
      simp only [Bool.not_true,Bool.false_or,Bool.and_eq_true,List.all_eq_true] at hall
      refine ⟨fun hnil=>?_,fun i hi=>?_⟩
      · have hne:=hall.1
        rw [hnil] at hne
        simp at hne
      · exact hb i (by have:=hall.2 i hi;simpa using this) hi m
theorem closedL_none (ops:Array Oper) (m:Nat):closedL ops (Array.replicate m false):=by
  intro j oj _ hl
  rw [getD_replicate_false] at hl
  cases hl
theorem regionD_ok (hT:TOk P T) (hZ:TSize T) (hm:P.follows .mixedOrders=true) {id:Nat} {ops:Array Oper} {draw:Bool} {ord:Option Ord} {e:Env} {a:Act} {w:World} {K:Env→World→Prop} (hr:Rel n e a)
    (h:regionD P T n ops.toList draw ord e w K) {p:Nat→Prop} (hp:∀ o∈ops.toList,∀ t,o.dst=some t→p t) (hQp:∀ c a w,¬ Q (.panic c) a w)
    (hQ:∀ e' a' w',Rel n e' a'→Fr p a a'→K e' w'→Q .normal a' w'):(Code.region id ops draw).wp P Q a w:=by
  unfold regionD at h
  split at h
  · refine wp_region_list ?_
    have:=opsD_ok (Q:=Q) hT hZ hr h a p hp (Fr.refl _ _) hQ
    simpa using this
  · rename_i o
    obtain ⟨hB,h⟩:=cond_true h
    have hB2:Region.noSelect ops=true∧ordOk T ops o true ops.size (Array.replicate ops.size false)=true:=by
      cases hs:Region.noSelect ops.toList.toArray with
      | false=>rw [hs] at hB;cases hB
      | true=>rw [hs] at hB;exact ⟨rfl,by simpa using hB⟩
    refine wp_region_any hm (wpAny_of_C (C:=Cof ops []) _ _ _ _ ?_)
    have:=(opsO_ok (Q:=Q) (a0:=a) hT hZ (ops:=ops.toList) hB2.1 hQp hp hQ ops.size o (Array.replicate ops.size false) [] e a w (closedL_none _ _) hr (Fr.refl _ _) (by intro f hf;cases hf) h).1 hB2.2
    have:=wpC_drew this 1
    simpa [World.drew_is_drewN] using this
  · exact h.elim
end
end Go.Eng
