/-
  A statement whose order Go leaves open: an operation that only looks may be taken first, as long as what it looked at stays. No condition.
-/
import Derived.Test.YtlnelldekejadaaGreatSnd6
set_option linter.all false
open Bool renaming and_eq_true→AA,false_or→AF,false_eq_true→AG,or_eq_true→AI
open Nat renaming eq_of_beq_eq_true→AB
open List renaming mem_cons_of_mem→AC,mem_cons_self→AD,mem_of_getElem?→AE,all_eq_true→AH
namespace Go.Eng
open Go
section
variable {P:Program} {ops:Array Oper} {Q:Exit→Act→World→Prop} {C:Array Bool→World→Prop}
def Bq5:Result Next→Prop
 | .ok .skip _=>False
 | .ok (.enter _ _) _=>False
 | .ok (.row _ _) _=>False
 | _=>True
theorem Bb8 {α:Type} {x:Sem α} {f:α→Sem Next} (h:∀ a w,Bq5 ((f a).run P w)) (w:World):Bq5 ((x >>= f).run P w):=by
 rw [Sem.run_bind]
 cases x.run P w with
 | ok a w'=>exact h a w'
 | halt x w'=>trivial
theorem Fe1 (s:Sem Value) (w:World):Bq5 ((do pure (Next.value (← s)):Sem Next).run P w):=by
 apply Bb8;intro v w;exact trivial
theorem Bi8 (w:World) (e:RuntimeError) (he:e = .nilDeref):Bq5 ((runtimePanic (α:=Next) e).run P w):=by
 subst he
 unfold runtimePanic
 apply Bb8;intro v w;exact trivial
theorem Dq3 {o:Oper} (h:Bn7 o.op=true) (ρ:Operand→Value) (w:World):Bq5 ((execOp ρ o).run P w):=by
 obtain ⟨dst,op,ty,pos,after,guard⟩:=o
 cases op<;>simp only [Bn7] at h<;>(try (cases h;done))
 case nilCheck x=>
  simp only [execOp]
  split
  · exact Bi8 w _ rfl
  · exact Bi8 w _ rfl
  · exact Bi8 w _ rfl
  · split
    · exact Bi8 w _ rfl
    · refine Bb8 (fun p w=>Bb8 (fun b w=>?_) w) w
      split
      · apply Bb8;intro v w;exact trivial
      · exact trivial
    · exact trivial
  · trivial
 case call c=>
  obtain ⟨callee,args,ts⟩:=c
  cases callee<;>simp only at h<;>(try (cases h;done))
  rename_i b
  cases b<;>simp only [Ej2] at h<;>(try (cases h;done))
  all_goals (simp only [execOp,resolve,pure_bind,invoke,builtin];exact Fe1 _ _)
 case pick c a b=>simp only [execOp];apply Bb8;intro v w;exact trivial
 all_goals (first | exact Fe1 _ _ | trivial)
def wpC (P:Program) (ops:Array Oper) (Q:Exit→Act→World→Prop) (C:Array Bool→World→Prop):Nat→Array Bool→Act→World→Prop
 | 0,listed,a,w=>Region.ready .any ops listed = []∧∀ n,Q .normal a (w.drewN n)
 | fuel+1,listed,a,w=>∀ n,(Region.ready .any ops listed = []→Q .normal a (w.drewN n)) ∧
  ∀ i∈Region.ready .any ops listed,wpOp P ops Q i (fun a' w'=>C (listed.setIfInBounds i true) w'∧wpC P ops Q C fuel (listed.setIfInBounds i true) a' w') a (w.drewN n)
theorem De8:∀ (fuel:Nat) (listed:Array Bool) (a:Act) (w:World),wpC P ops Q C fuel listed a w→wpAny P .any ops Q fuel listed a w
 | 0,_,_,_,h=>⟨h.1,h.2 0⟩
 | fuel+1,_,_,_,h=>⟨(h 0).1,fun i hi=>wpOp_mono (fun a' w' h'=>De8 fuel _ a' w' h'.2) ((h 0).2 i hi)⟩
theorem Bz7 {fuel:Nat} {listed:Array Bool} {a:Act} {w:World} (h:wpC P ops Q C fuel listed a w) (m:Nat):wpC P ops Q C fuel listed a (w.drewN m):=by
 cases fuel with
 | zero=>exact ⟨h.1,fun n=>by rw [World.drewN_drewN];exact h.2 _⟩
 | succ fuel=>intro n;rw [World.drewN_drewN];exact h _
def Ext (l l':Array Bool):Prop:=∀ j,l.getD j false=true→l'.getD j false=true
theorem Ext.refl (l:Array Bool):Ext l l:=fun _ h=>h
theorem Ext.set {l l':Array Bool} (h:Ext l l') (i:Nat):Ext l (l'.setIfInBounds i true):=fun j hj=>getD_set_true (h j hj)
theorem Dm3 {C':Array Bool→World→Prop}:∀ (fuel:Nat) (l0 listed:Array Bool) (a:Act) (w:World),Ext l0 listed→(∀ l w,Ext l0 l→C' l w→C l w) →
 wpC P ops Q C' fuel listed a w→wpC P ops Q C fuel listed a w
 | 0,_,_,_,_,_,_,h=>h
 | fuel+1,l0,_,_,_,hx,hC,h=>fun n=>⟨(h n).1,fun i hi=>wpOp_mono (fun a' w' h'=>⟨hC _ _ (hx.set i) h'.1,Dm3 fuel l0 _ a' w' (hx.set i) hC h'.2⟩) ((h n).2 i hi)⟩
def Bl4 (ops:Array Oper) (listed:Array Bool):Prop:=∀ j oj,ops[j]?=some oj→listed.getD j false=true→∀ e∈oj.after,Region.binds .any e=true→listed.getD e.on false=true
theorem getD_both' {listed:Array Bool} {i:Nat} (h:listed.getD i true=false):listed.getD i false=false:=by
 rcases Nat.lt_or_ge i listed.size with h' | h'
 · simp [h'] at h ⊢;exact h
 · simp [Array.getElem?_eq_none h'] at h
theorem Bl4.set {i:Nat} {listed:Array Bool} (h:Bl4 ops listed) (hi:i∈Region.ready .any ops listed):Bl4 ops (listed.setIfInBounds i true):=by
 obtain ⟨_,oi,hoi,hall⟩:=mem_ready.1 hi
 intro j oj hj hl e he hb
 by_cases hij:i=j
 · subst hij
   have:oj=oi:=Option.some.inj (hj.symm.trans hoi)
   subst this
   exact getD_set_true (hall e he hb)
 · rw [getD_set_ne false hij] at hl
   exact getD_set_true (h j oj hj hl e he hb)
def YS (P:Program) (ops:Array Oper) (C:Array Bool→World→Prop) (i:Nat) (o:Oper) (S:Value→Prop) (a:Act):Prop:=
 (Region.wanted o (yielded ops a.tmps)=true∧∀ l w,Bl4 ops l→l.getD i true=false→C l w→∃ v n,(execOp a.eval o).run P w = .ok (.value v) (w.drewN n)∧S v) ∨
 (Region.wanted o (yielded ops a.tmps)=false∧S undef)
theorem YS.same {i:Nat} {o:Oper} {S:Value→Prop} {a a':Act} (h:YS P ops C i o S a) (he:execOp a'.eval o=execOp a.eval o)
 (hw:Region.wanted o (yielded ops a'.tmps)=Region.wanted o (yielded ops a.tmps)):YS P ops C i o S a':=by
 unfold YS at *;rw [he,hw];exact h
theorem Fw0 {j:Nat} {oi oj:Oper} {S:Value→Prop} (hj:ops[j]?=some oj) (hap:oi.apart ops oj=true)
 (hsj:∀ cs b,oj.op ≠ .select cs b) (hne:∃ v,S v) (hS:(∀ v v',S v→S v'→v=v')∨Bn7 oj.op=true) (hQ:∀ c a w,¬ Q (.panic c) a w)
 {K:Value→Act→World→Prop} {R:Act→Prop} (hR:∀ a,R a→∀ u,R (a.put oj.dst u)) (hRd:∀ a d,R a→R { a with defers:=d::a.defers }) {a:Act} {w:World} (hRa:R a)
 (h:∀ v,S v→wpOp P ops Q j (K v) (a.put oi.dst v) w) :
 wpOp P ops Q j (fun a' w'=>R a'∧∀ v,S v→K v (a'.put oi.dst v) w') a w:=by
 obtain ⟨m,l,p⟩:=Oper.apart_spec hap
 obtain ⟨g,k⟩:=hne
 unfold wpOp at *
 simp only [hj] at *
 have hwant:∀ v,Region.wanted oj (yielded ops (a.put oi.dst v).tmps)=Region.wanted oj (yielded ops a.tmps):=fun v=>wanted_put oj a oi.dst v m
 by_cases hw:Region.wanted oj (yielded ops a.tmps)=true
 · simp only [hwant,hw,if_true] at h ⊢
   by_cases hask:oj.asks P a w∧LetsOut Q
   · exact .inr hask
   · have h':∀ v,S v→oj.wp P (a.put oi.dst v) w (K v) Q:=fun v hv=>(h v hv).resolve_right fun ⟨x,y⟩=>hask ⟨by
      unfold Oper.asks at *;rw [execOp_put oj hsj a oi.dst v m] at x;exact x,y⟩
     refine .inl ?_
     have hq:=fun hq=>Dq3 (P:=P) (o:=oj) hq a.eval w
     unfold Oper.wp at *
     have h'':∀ v,S v→oj.upon P (a.put oi.dst v) (K v) Q ((execOp a.eval oj).run P w):=fun v hv=>by
      have:=h' v hv
      rwa [execOp_put oj hsj a oi.dst v m] at this
     clear h' h
     generalize (execOp a.eval oj).run P w=r at *
     cases r with
     | ok n w'=>
       cases n<;>simp only [Oper.upon] at h'' ⊢ <;> (try exact (h'' g k).elim)
       case value u=>exact ⟨hR a hRa u,fun v hv=>by rw [← Act.put_comm a v u l];exact h'' v hv⟩
       case skip=>exact ⟨hR a hRa _,fun v hv=>by rw [← Act.put_comm a v undef l];exact h'' v hv⟩
       case defer d=>
        refine ⟨hR _ (hRd a d hRa) _,fun v hv=>?_⟩
        rw [← Act.put_comm _ v undef l,← Act.put_defers]
        exact h'' v hv
       case enter f args=>
        rcases hS with hS | hS
        · refine Calls.mono (h'' g k) fun e w'' he=>?_
          cases e with
          | returned u=>exact ⟨hR a hRa u,fun v hv=>by rw [hS v g hv k,← Act.put_comm a g u l];exact he⟩
          | panicked c=>exact (hQ _ _ _ he).elim
          | outgrown=>exact he
        · exact (hq hS).elim
       case row row args=>
        rcases hS with hS | hS
        · refine Rows.mono (h'' g k) fun u w'' he=>?_
          exact ⟨hR a hRa u,fun v hv=>by rw [hS v g hv k,← Act.put_comm a g u l];exact he⟩
        · exact (hq hS).elim
     | halt x w'=>cases x<;>simp only [Oper.upon] at h'' ⊢ <;> first | exact (h'' g k).elim | exact (hQ _ _ _ (h'' g k)).elim
 · simp only [hwant,hw] at h ⊢
   exact ⟨hR a hRa _,fun v hv=>by rw [← Act.put_comm a v undef l];exact h v hv⟩
inductive Beh (ops:Array Oper) (i:Nat):Nat→Prop
 | self:Beh ops i i
 | step {j:Nat} {oj:Oper} {e:Edge}:ops[j]?=some oj→e∈oj.after→Region.binds .any e=true→Beh ops i e.on→Beh ops i j
theorem Beh.unlisted {i j:Nat} {listed:Array Bool} (hcl:Bl4 ops listed) (hi:listed.getD i true=false) (h:Beh ops i j):listed.getD j false=false:=by
 induction h with
 | self=>exact getD_both' hi
 | @step j oj e hj he hb _ ih=>
   cases hl:listed.getD j false with
   | false=>rfl
   | true=>rw [hcl j oj hj hl e he hb] at ih;cases ih
theorem Fi6 {i:Nat} {oi:Oper} {S:Value→Prop} (hi:ops[i]?=some oi) (hsel:∀ (j:Nat) (o:Oper) cs b,ops[j]?=some o→o.op ≠ .select cs b)
 (hCd:∀ l w n,C l w→C l (w.drewN n)) (hCi:∀ l w,C (l.setIfInBounds i true) w↔C l w) (hQ:∀ c a w,¬ Q (.panic c) a w) (hne:∃ v,S v) :
 ∀ (fuel:Nat) (listed:Array Bool) (a:Act) (w:World),
   ((∀ v v',S v→S v'→v=v')∨(∀ j oj,ops[j]?=some oj→listed.getD j true=false→j≠i→(∀ e∈oj.after,Region.binds .any e=true → ¬ Beh ops i e.on)→Bn7 oj.op=true)) →
   (∀ j oj,ops[j]?=some oj→j≠i→listed.getD j true=false→(∀ e∈oj.after,Region.binds .any e=true→e.on≠i)→oi.apart ops oj=true) →
   i∈Region.ready .any ops listed→Bl4 ops listed→C listed w→YS P ops C i oi S a →
   (∀ v,S v→wpC P ops Q C fuel (listed.setIfInBounds i true) (a.put oi.dst v) w)→wpC P ops Q C (fuel+1) listed a w:=by
 intro fuel
 induction fuel with
 | zero=>
   intro listed a w hS hfree hr hcl hC hy H n
   refine ⟨fun h=>(by rw [h] at hr;cases hr),fun j hj=>?_⟩
   by_cases hji:j=i
   · subst hji
     have hun:=(mem_ready.1 hr).1
     unfold wpOp
     simp only [hi]
     rcases hy with ⟨hw,hy⟩ | ⟨hw,hy⟩
     · simp only [hw,if_true]
       obtain ⟨v,m,hrun,hv⟩:=hy listed (w.drewN n) hcl hun (hCd _ _ _ hC)
       refine .inl ?_
       unfold Oper.wp
       rw [hrun]
       simp only [Oper.upon]
       exact ⟨(hCi _ _).2 (hCd _ _ _ (hCd _ _ _ hC)),by rw [World.drewN_drewN];exact Bz7 (H v hv) _⟩
     · simp only [hw,AG,if_false]
       exact ⟨(hCi _ _).2 (hCd _ _ _ hC),Bz7 (H _ hy) _⟩
   · obtain ⟨v,hv⟩:=hne
     have:=ready_mono hj hji
     rw [(H v hv).1] at this
     cases this
 | succ fuel ih=>
   intro listed a w hS hfree hr hcl hC hy H n
   refine ⟨fun h=>(by rw [h] at hr;cases hr),fun j hj=>?_⟩
   by_cases hji:j=i
   · subst hji
     have hun:=(mem_ready.1 hr).1
     unfold wpOp
     simp only [hi]
     rcases hy with ⟨hw,hy⟩ | ⟨hw,hy⟩
     · simp only [hw,if_true]
       obtain ⟨v,m,hrun,hv⟩:=hy listed (w.drewN n) hcl hun (hCd _ _ _ hC)
       refine .inl ?_
       unfold Oper.wp
       rw [hrun]
       simp only [Oper.upon]
       exact ⟨(hCi _ _).2 (hCd _ _ _ (hCd _ _ _ hC)),by rw [World.drewN_drewN];exact Bz7 (H v hv) _⟩
     · simp only [hw,AG,if_false]
       exact ⟨(hCi _ _).2 (hCd _ _ _ hC),Bz7 (H _ hy) _⟩
   · obtain ⟨hjun,oj,hoj,hall⟩:=mem_ready.1 hj
     have hnot:∀ e∈oj.after,Region.binds .any e=true→e.on≠i:=fun e he hb heq=>by
      have f:=hall e he hb
      have p:=getD_both' (mem_ready.1 hr).1
      rw [heq,p] at f
      cases f
     have hnot':∀ e∈oj.after,Region.binds .any e=true → ¬ Beh ops i e.on:=fun e he hb hbe=>by
      have f:=hall e he hb
      rw [hbe.unlisted hcl (mem_ready.1 hr).1] at f
      cases f
     have hap:=hfree j oj hoj hji hjun hnot
     obtain ⟨f,s,g⟩:=Oper.apart_spec hap
     have hall2:=Fw0 (S:=S) (R:=fun a'=>YS P ops C i oi S a') (K:=fun v a' w'=>C ((listed.setIfInBounds i true).setIfInBounds j true) w'∧wpC P ops Q C fuel ((listed.setIfInBounds i true).setIfInBounds j true) a' w')
      hoj hap (fun cs b=>hsel j oj cs b hoj) hne (hS.imp id fun h=>h j oj hoj hjun hji hnot') hQ
      (fun a hy u=>hy.same (execOp_put oi (fun cs b=>hsel i oi cs b hi) a oj.dst u g) (wanted_put oi a oj.dst u g)) (fun a d hy=>hy.same rfl rfl) hy
      (fun v hv=>(H v hv n).2 j (ready_mono hj hji))
     refine wpOp_mono (fun a' w' hh=>?_) hall2
     obtain ⟨hy',hh⟩:=hh
     obtain ⟨q,r⟩:=hne
     have hcomm:(listed.setIfInBounds i true).setIfInBounds j true=(listed.setIfInBounds j true).setIfInBounds i true:=Array.setIfInBounds_comm _ _ (Ne.symm hji)
     have hC':C (listed.setIfInBounds j true) w':=by
      have:=(hh q r).1
      rw [hcomm] at this
      exact (hCi _ _).1 this
     have hsub:∀ k ok,ops[k]?=some ok→(listed.setIfInBounds j true).getD k true=false→listed.getD k true=false:=fun k ok _ hun=>by
      by_cases hjk:j=k
      · subst hjk;exact hjun
      · rw [getD_set_ne true hjk] at hun;exact hun
     refine ⟨hC',ih (listed.setIfInBounds j true) a' w' (hS.imp id fun h k ok hk hun=>h k ok hk (hsub k ok hk hun)) ?_ (ready_mono hr (Ne.symm hji)) (hcl.set hj) hC' hy' ?_⟩
     · intro k ok hk hki hun hno
       exact hfree k ok hk hki (hsub k ok hk hun) hno
     · intro v hv
       rw [← hcomm]
       exact (hh v hv).2
end
end Go.Eng
/-
  A region of operations, in the order of the text or in an order that Go leaves open, read definitionally: sound. No condition but that the table of types is the program's.
-/
namespace Go.Eng
open Go
structure Rel (n:Nat) (e:Env) (a:Act):Prop where
 size:a.tmps.size=n
 defers:a.defers = []
 vals:∀ t v,e t=some v→a.tmps.getD t undef=v
def Fr (p:Nat→Prop) (a a':Act):Prop:=∀ t,¬ p t→a'.tmps.getD t undef=a.tmps.getD t undef
theorem Fr.refl (p:Nat→Prop) (a:Act):Fr p a a:=fun _ _=>rfl
theorem Fr.trans {p:Nat→Prop} {a b c:Act} (h:Fr p a b) (k:Fr p b c):Fr p a c:=fun t ht=>(k t ht).trans (h t ht)
theorem Fr.mono {p q:Nat→Prop} {a b:Act} (h:Fr p a b) (hp:∀ t,p t→q t):Fr q a b:=fun t ht=>h t fun hh=>ht (hp t hh)
theorem Rel.ev {n:Nat} {e:Env} {a:Act} (h:Rel n e a):Gg4 e a.eval:=by
 intro x v hx
 cases x with
 | tmp t=>exact h.vals t v hx
 | const u=>simp [Eng.ev] at hx;subst hx;rfl
 | global g=>simp [Eng.ev] at hx;subst hx;rfl
 | func f=>simp [Eng.ev] at hx;subst hx;rfl
theorem Rel.upd_same {n:Nat} {e:Env} {a:Act} (h:Rel n e a) {t:Nat} {v:Value} (ht:a.tmps.getD t undef=v):Rel n (upd e t v) a:=by
 refine ⟨h.size,h.defers,fun t' v' h'=>?_⟩
 unfold upd at h'
 cases hb:Nat.beq t' t with
 | true=>
   rw [hb] at h'
   have:=AB hb
   subst this
   simp at h'
   rw [ht,h']
 | false=>rw [hb] at h';exact h.vals t' v' h'
theorem Rel.put {n:Nat} {e:Env} {a:Act} (h:Rel n e a) {d:Nat} (hd:d<n) (v:Value):Rel n (upd e d v) (a.put (some d) v):=by
 refine ⟨by simp [Act.put,h.size],h.defers,fun t v' h'=>?_⟩
 unfold upd at h'
 have hs:=h.size
 cases hb:Nat.beq t d with
 | true=>
   rw [hb] at h'
   have:=AB hb
   subst this
   simp at h'
   have hlt:t<a.tmps.size:=by omega
   simp [Act.put,hlt,h']
 | false=>
   rw [hb] at h'
   have hne:d≠t:=fun e=>by subst e;simp at hb
   have:=h.vals t v' h'
   simpa [Act.put,Array.getElem?_setIfInBounds_ne hne] using this
theorem Fr.put {p:Nat→Prop} {a:Act} {d:Option Nat} (h:∀ t,d=some t→p t) (v:Value):Fr p a (a.put d v):=by
 intro t ht
 cases d with
 | none=>rfl
 | some d=>
   have hne:d≠t:=fun e=>ht (h t (by rw [e]))
   simp [Act.put,Array.getElem?_setIfInBounds_ne hne]
section
variable {P:Program} {T:Nat→Option TI} {n:Nat} {Q:Exit→Act→World→Prop}
theorem Cz5 {e:Env} {a:Act} (h:Rel n e a) {d:Option Nat} {v:Value} {K:Env→Prop} (hk:Fo1 n e d v K):∃ e',Rel n e' (a.put d v)∧K e':=by
 cases d with
 | none=>exact ⟨e,h,hk⟩
 | some d=>
   obtain ⟨hb,hk⟩:=cond_true hk
   have hd:d<n:=by
    have:d+1≤n:=by simpa [Nat.blt] using hb
    omega
   exact ⟨_,h.put hd v,hk⟩
theorem Dx7 {o:Oper} {a:Act} {w:World} {K:Value→World→Prop} {next:Act→World→Prop} (h:Out P K ((execOp a.eval o).run P w)) (hk:∀ v w',K v w'→next (a.put o.dst v) w'):o.wp P a w next Q:=by
 unfold Oper.wp
 generalize (execOp a.eval o).run P w=r at h
 unfold Out at h
 split at h
 · exact hk _ _ h
 · exact hk _ _ h
 · exact h.mono fun e w' ⟨v,he,hkk⟩=>by subst he;exact hk _ _ hkk
 · exact h.elim
theorem Fz1 {ops:List Oper} {j t:Nat} (h:Ew8 ops j=some t):((ops.toArray[j]?).bind (·.dst))=some t:=by
 unfold Ew8 at h
 rw [Ax2] at h
 cases ho:ops[j]? with
 | none=>simp [ho] at h
 | some o=>simp [ho] at h;simp [ho,h]
theorem De0 {ops:List Oper} {j t:Nat} {e:Env} {a:Act} {b:Bool} (h:Rel n e a) (hd:Ew8 ops j=some t) (he:e t=some (.bool b)):yielded ops.toArray a.tmps j=some b:=by
 have hv:=h.vals t _ he
 unfold yielded
 rw [Fz1 hd]
 have:a.tmps[t]?=some (.bool b):=by
  rw [Array.getD_eq_getD_getElem?] at hv
  cases hh:a.tmps[t]? with
  | none=>rw [hh] at hv;simp [undef] at hv
  | some u=>rw [hh] at hv;simpa using hv
 simp [this]
theorem Dg6 {ops:List Oper} {j t:Nat} {e:Env} {a:Act} {v:Value} (h:Rel n e a) (hd:Ew8 ops j=some t) (he:e t=some v) (hv:∀ b,v ≠ .bool b):yielded ops.toArray a.tmps j=none:=by
 have hh:=h.vals t _ he
 unfold yielded
 rw [Fz1 hd]
 simp only [Option.bind_some]
 rw [Array.getD_eq_getD_getElem?] at hh
 cases hq:a.tmps[t]? with
 | none=>rfl
 | some u=>
   rw [hq] at hh
   simp at hh
   subst hh
   cases u<;>first | rfl | (exact absurd rfl (hv _))
theorem Em1 (hT:TOk P T) (hZ:Cf0 T) {ops:List Oper} {o:Oper} {e:Env} {a:Act} {w:World} {K:Env→World→Prop} {next:Act→World→Prop} (hr:Rel n e a)
 (h:Ft6 P T n ops o e w K) (hk:∀ e' v w',Rel n e' (a.put o.dst v)→K e' w'→next (a.put o.dst v) w') :
 if Region.wanted o (yielded ops.toArray a.tmps) then o.wp P a w next Q else next (a.put o.dst undef) w:=by
 unfold Ft6 at h
 cases hg:o.guard with
 | none=>
   simp only [hg] at h
   have hw:Region.wanted o (yielded ops.toArray a.tmps)=true:=by simp [Region.wanted,hg]
   rw [if_pos hw]
   exact Dx7 (Ey8 hT hZ hr.ev h) fun v w' hkk=>let ⟨e',c,d⟩:=Cz5 hr hkk;hk e' v w' c d
 | some g=>
   obtain ⟨j,want⟩:=g
   simp only [hg] at h
   obtain ⟨t,ht,h⟩:=Aa3 h
   split at h
   · rename_i b hb
     have hy:=De0 hr ht hb
     have hwd:Region.wanted o (yielded ops.toArray a.tmps)=(b==want):=by simp [Region.wanted,hg,hy]
     rw [hwd]
     have hval:=hr.vals t _ hb
     rcases As2 h with ⟨hc,h'⟩ | ⟨hc,h'⟩
     · have hbw:b=want:=by cases want<;>cases b<;>simp_all
       subst hbw
       rw [if_pos (by simp)]
       have hr':=hr.upd_same hval
       exact Dx7 (Ey8 hT hZ hr'.ev h') fun v w' hkk=>let ⟨e',c,d⟩:=Cz5 hr' hkk;hk e' v w' c d
     · have hbw:b = !want:=by cases want<;>cases b<;>simp_all
       subst hbw
       rw [if_neg (by simp)]
       have hr':=hr.upd_same hval
       obtain ⟨e',c,d⟩:=Cz5 hr' h'
       exact hk e' undef w c d
   · rename_i v hv hnb
     have hy:=Dg6 hr ht hnb (fun b hb=>hv b hb)
     have hwd:Region.wanted o (yielded ops.toArray a.tmps)=false:=by simp [Region.wanted,hg,hy]
     rw [if_neg (by simp [hwd])]
     obtain ⟨e',c,d⟩:=Cz5 hr h
     exact hk e' undef w c d
   · exact h.elim
theorem Fc4 (hT:TOk P T) (hZ:Cf0 T) {all:List Oper}:∀ {l:List Oper} {e:Env} {a:Act} {w:World} {K:Env→World→Prop},Rel n e a →
 Ha2 P T n all l e w K→∀ (a0:Act) (p:Nat→Prop),(∀ o∈l,∀ t,o.dst=some t→p t)→Fr p a0 a→(∀ e' a' w',Rel n e' a'→Fr p a0 a'→K e' w'→Q .normal a' w')→wpList P all.toArray Q l a w
 | [],e,a,w,K,hr,h,a0,p,hp,hf,hk=>hk e a w hr hf h
 | o::l,e,a,w,K,hr,h,a0,p,hp,hf,hk=>by
   simp only [wpList]
   have:=Em1 (Q:=Q) (next:=wpList P all.toArray Q l) hT hZ hr h fun e' v w' hr' hkk=>
    Fc4 hT hZ hr' hkk a0 p (fun o' ho'=>hp o' (AC _ ho')) (hf.trans (Fr.put (fun t ht=>hp o (AD ..) t ht) v)) hk
   split
   · rename_i hw;rw [if_pos hw] at this;exact .inl this
   · rename_i hw;rw [if_neg hw] at this;exact this
end
end Go.Eng
/-
  What an operation that only looks yields does not hang on the world, but for the cells that it read. No condition.
-/
namespace Go.Eng
open Go
section
variable {P:Program} {T:Nat→Option TI}
theorem Ab5 {α:Type} {o:Option α} {v:α} {K:α→Prop} (h:o=some v) (hk:K v):Ac6 o K:=by subst h;exact hk
theorem Ad1 {o:Option Value} {v:Value} {K:Value→Prop} (h:o=some v) (hk:K v):Ar1 o K:=by subst h;exact hk
theorem Bp3 {α:Type} {o:Option α} {v:α} {K:α→Prop} (h:o=some v) (hk:K v):Ab6 o K:=by subst h;exact hk
theorem Dj9 {b:Bool} {A:Prop} (h:b=true) (hk:A):cond b A False:=by subst h;exact hk
theorem Df5 {op:BinOp} {k:IntKind} {a b:Int} {K:Value→Prop} (h:Dg0 op k a b K):∃ v,K v∧∀ K':Value→Prop,K' v→Dg0 op k a b K':=by
 cases op<;>simp only [Dg0] at h ⊢ <;> (first | exact h.elim | exact ⟨_,h,fun _ hk=>hk⟩ | exact ⟨_,h.2,fun _ hk=>⟨h.1,hk⟩⟩)
def Gg6 (op:BinOp):Bool:=match op with | .add | .sub | .mul | .quo=>true | _=>false
theorem Fw3 {ti:TI} {op:BinOp} {x y:Value} {w:World} {K:Value→Prop} (hd:∀ k,ti.d = .float k→Gg6 op=false) (h:Cj3 ti op x y w fun v _=>K v) :
 ∃ v,K v∧∀ (w':World) (K':Value→World→Prop),K' v w'→Cj3 ti op x y w' K':=by
 unfold Cj3 at h
 split at h
 · split at h
   · exact ⟨_,h.2,fun w' K' hk=>⟨h.1,hk⟩⟩
   · exact ⟨_,h.2,fun w' K' hk=>⟨h.1,hk⟩⟩
   · rename_i op' c e
     obtain ⟨hk,h⟩:=cond_true h
     obtain ⟨v,hv,hb⟩:=Df5 h
     refine ⟨v,hv,fun w' K' hk'=>?_⟩
     have hb':=hb (fun u=>K' u w') hk'
     unfold Cj3
     cases op<;>first | exact Dj9 hk hb' | exact (c rfl).elim | exact (e rfl).elim
 · rename_i a b
   split at h
   · rename_i k hb
     have:=hd k hb
     cases op<;>(try (cases this;done))<;>simp only [Dp6] at h<;>first | exact h.elim | exact ⟨_,h,fun w' K' hk=>by simp only [Cj3,hb];exact hk⟩
   · exact h.elim
 · split at h
   · rename_i hb
     split at h
     · exact ⟨_,h,fun w' K' hk=>by simp only [Cj3,hb];exact hk⟩
     · exact ⟨_,h,fun w' K' hk=>by simp only [Cj3,hb];exact hk⟩
     · exact h.elim
   · exact h.elim
 · split at h
   · rename_i hb
     split at h
     · exact ⟨_,h,fun w' K' hk=>by simp only [Cj3,hb];exact hk⟩
     · exact ⟨_,h,fun w' K' hk=>by simp only [Cj3,hb];exact hk⟩
     · exact h.elim
   · exact h.elim
 · split at h
   · rename_i hb
     split at h
     · exact ⟨_,h,fun w' K' hk=>by simp only [Cj3,hb];exact hk⟩
     · exact ⟨_,h,fun w' K' hk=>by simp only [Cj3,hb];exact hk⟩
     · exact h.elim
   · exact h.elim
 · split at h
   · exact ⟨_,h,fun w' K' hk=>hk⟩
   · exact ⟨_,h,fun w' K' hk=>hk⟩
   · exact h.elim
 · rename_i xs ys
   obtain ⟨he,h⟩:=cond_true h
   unfold Gl5 at h
   split at h
   · rename_i hx hy
     split at h
     · exact ⟨_,h,fun w' K' hk=>by simp only [Cj3,Gl5,he,hx,hy,cond];exact hk⟩
     · exact ⟨_,h,fun w' K' hk=>by simp only [Cj3,Gl5,he,hx,hy,cond];exact hk⟩
     · exact h.elim
   · exact h.elim
 · exact h.elim
theorem Gi2 {op:UnOp} {x:Value} {K:Value→Prop} (h:unD op x K):∃ v,K v∧∀ K':Value→Prop,K' v→unD op x K':=by
 unfold unD at h
 split at h
 · exact ⟨_,h,fun _ hk=>hk⟩
 · exact ⟨_,h,fun _ hk=>hk⟩
 · exact ⟨_,h,fun _ hk=>hk⟩
 · exact ⟨_,h,fun _ hk=>hk⟩
 · exact h.elim
theorem Dh0 {s:Nat} {a:Option Addr} {l c:Nat} {lo hi mx:Option Value} {K:Value→Prop} (h:Cb8 s a l c lo hi mx K):∃ v,K v∧∀ K':Value→Prop,K' v→Cb8 s a l c lo hi mx K':=by
 unfold Cb8 at h
 split at h
 · exact ⟨_,h,fun K' hk=>hk⟩
 · exact ⟨_,h.2.2,fun K' hk=>⟨h.1,h.2.1,hk⟩⟩
 · exact ⟨_,h.2.2,fun K' hk=>⟨h.1,h.2.1,hk⟩⟩
 · obtain ⟨b,d,e,f,h⟩:=h;exact ⟨_,h,fun K' hk=>⟨b,d,e,f,hk⟩⟩
 · obtain ⟨b,d,e,f,g,i,h⟩:=h;exact ⟨_,h,fun K' hk=>⟨b,d,e,f,g,i,hk⟩⟩
 · exact h.elim
theorem Gk2 {ts:List Nat} {args:List Value} {w:World} {K:Value→Prop} (h:Ap4 T .len ts args w fun v _=>K v) :
 ∃ v,K v∧∀ (w':World) (K':Value→World→Prop),K' v w'→Ap4 T .len ts args w' K':=by
 unfold Ap4 at h
 split at h<;>(try (rename_i hx;cases hx;done))<;>(try exact h.elim)
 all_goals (
  replace h:=Aa3 h
  obtain ⟨t,ht,h⟩:=h
  replace h:=Aa3 h
  obtain ⟨ti,hti,h⟩:=h)
 case h_3=>
  split at h
  · rename_i a
    replace h:=Aa3 h
    obtain ⟨te,hte,h⟩:=h
    split at h
    · rename_i b
      exact ⟨_,h,fun w' K' hk=>Ab5 ht (Ab5 hti (by simp only [a];exact Ab5 hte (by simp only [b];exact hk)))⟩
    · exact h.elim
  · exact h.elim
 all_goals (
  split at h
  · rename_i a
    exact ⟨_,h,fun w' K' hk=>Ab5 ht (Ab5 hti (by simp only [a];exact hk))⟩
  · exact h.elim)
theorem Gi0 {ts:List Nat} {args:List Value} {w:World} {K:Value→Prop} (h:Ap4 T .cap ts args w fun v _=>K v) :
 ∃ v,K v∧∀ (w':World) (K':Value→World→Prop),K' v w'→Ap4 T .cap ts args w' K':=by
 unfold Ap4 at h
 split at h<;>(try (rename_i hx;cases hx;done))<;>(try exact h.elim)
 all_goals (
  replace h:=Aa3 h
  obtain ⟨t,ht,h⟩:=h
  replace h:=Aa3 h
  obtain ⟨ti,hti,h⟩:=h)
 all_goals (
  split at h
  · rename_i a
    exact ⟨_,h,fun w' K' hk=>Ab5 ht (Ab5 hti (by simp only [a];exact hk))⟩
  · exact h.elim)
theorem Fg1 {e:Env} {ty:Nat} {op:Op} {w:World} {K:Value→Prop} (hq:Bn7 op=true) (hl:∀ t a,op ≠ .load t a) (hd:Dc7 T op=false) (h:opD P T e ty op w fun v _=>K v) :
 ∃ v,K v∧∀ (w':World) (K':Value→World→Prop),K' v w'→opD P T e ty op w' K':=by
 cases op<;>(try (cases hq;done))
 case move x=>replace h:=Ab3 h;obtain ⟨v,hv,h⟩:=h;exact ⟨v,h,fun w' K' hk=>Ad1 hv hk⟩
 case assign x=>replace h:=Ab3 h;obtain ⟨v,hv,h⟩:=h;exact ⟨v,h,fun w' K' hk=>Ad1 hv hk⟩
 case pick c a b=>
  replace h:=Ab3 h;obtain ⟨v,hv,h⟩:=h
  split at h
  · rename_i t
    rcases As2 h with ⟨rfl,h⟩ | ⟨rfl,h⟩
    · replace h:=Ab3 h;obtain ⟨u,hu,h⟩:=h;exact ⟨u,h,fun w' K' hk=>Ad1 hv (Ad1 hu hk)⟩
    · replace h:=Ab3 h;obtain ⟨u,hu,h⟩:=h;exact ⟨u,h,fun w' K' hk=>Ad1 hv (Ad1 hu hk)⟩
  · exact h.elim
 case build t ps=>
  replace h:=Aa3 h;obtain ⟨ti,hti,h⟩:=h
  split at h
  · rename_i fs hfs
    replace h:=Aa3 h;obtain ⟨pl,hpl,h⟩:=h
    replace h:=Aa3 h;obtain ⟨vs,hvs,h⟩:=h
    replace h:=Aa3 h;obtain ⟨cs,hcs,h⟩:=h
    exact ⟨_,h,fun w' K' hk=>Ab5 hti (by simp only [hfs];exact Ab5 hpl (Ab5 hvs (Ab5 hcs hk)))⟩
  · rename_i n el hfs
    replace h:=Aa3 h;obtain ⟨pl,hpl,h⟩:=h
    replace h:=Aa3 h;obtain ⟨vs,hvs,h⟩:=h
    replace h:=Aa3 h;obtain ⟨cs,hcs,h⟩:=h
    exact ⟨_,h,fun w' K' hk=>Ab5 hti (by simp only [hfs];exact Ab5 hpl (Ab5 hvs (Ab5 hcs hk)))⟩
  · exact h.elim
 case load t a=>exact absurd rfl (hl t a)
 case nilCheck x=>
  replace h:=Ab3 h;obtain ⟨v,hv,h⟩:=h
  split at h
  · replace h:=Am6 h;obtain ⟨a,ha,h⟩:=h;exact ⟨_,h,fun w' K' hk=>Ad1 hv (Bp3 ha hk)⟩
  · exact ⟨_,h,fun w' K' hk=>Ad1 hv hk⟩
  · exact h.elim
 case binOp bop t x y z=>
  replace h:=Aa3 h;obtain ⟨ti,hti,h⟩:=h
  replace h:=Ab3 h;obtain ⟨a,ha,h⟩:=h
  replace h:=Ab3 h;obtain ⟨b,hb,h⟩:=h
  simp only [Dc7,hti] at hd
  obtain ⟨v,hv,hall⟩:=Fw3 (fun k hk=>by
   rw [hk] at hd
   cases bop<;>first | rfl | (cases hd)) h
  exact ⟨v,hv,fun w' K' hk=>Ab5 hti (Ad1 ha (Ad1 hb (hall w' K' hk)))⟩
 case unOp uop t x=>
  replace h:=Ab3 h;obtain ⟨v,hv,h⟩:=h
  obtain ⟨u,hu,h⟩:=Gi2 h
  exact ⟨u,hu,fun w' K' hk=>Ad1 hv (h (fun u=>K' u w') hk)⟩
 case convert s d x=>
  replace h:=Aa3 h;obtain ⟨ts,hts,h⟩:=h
  replace h:=Aa3 h;obtain ⟨td,htd,h⟩:=h
  replace h:=Ab3 h;obtain ⟨v,hv,h⟩:=h
  simp only [Dc7,hts,htd] at hd
  unfold Db9 at h
  split at h
  · rename_i g j;exact ⟨_,h,fun w' K' hk=>Ab5 hts (Ab5 htd (Ad1 hv (by simp only [Db9,g,j];exact hk)))⟩
  · rename_i g j;exact ⟨_,h,fun w' K' hk=>Ab5 hts (Ab5 htd (Ad1 hv (by simp only [Db9,g,j];exact hk)))⟩
  · rename_i g j;rw [g,j] at hd;cases hd
  · rename_i g j;exact ⟨_,h,fun w' K' hk=>Ab5 hts (Ab5 htd (Ad1 hv (by simp only [Db9,g,j];exact hk)))⟩
  · exact h.elim
 case makeFunc fn a b=>
  replace h:=Aa3 h;obtain ⟨va,hva,h⟩:=h
  replace h:=Aa3 h;obtain ⟨vb,hvb,h⟩:=h
  exact ⟨_,h,fun w' K' hk=>Ab5 hva (Ab5 hvb hk)⟩
 case slice t x lo hi mx=>
  replace h:=Aa3 h;obtain ⟨ti,hti,h⟩:=h
  replace h:=Ab3 h;obtain ⟨v,hv,h⟩:=h
  replace h:=Aa3 h;obtain ⟨l,q,h⟩:=h
  replace h:=Aa3 h;obtain ⟨hh,r,h⟩:=h
  replace h:=Aa3 h;obtain ⟨m,hm,h⟩:=h
  split at h
  · rename_i g
    replace h:=Aa3 h;obtain ⟨s,hs,h⟩:=h
    obtain ⟨u,hu,hall⟩:=Dh0 h
    exact ⟨u,hu,fun w' K' hk=>Ab5 hti (Ad1 hv (Ab5 q (Ab5 r (Ab5 hm (by simp only [g];exact Ab5 hs (hall (fun u=>K' u w') hk))))))⟩
  · rename_i g
    replace h:=Am6 h;obtain ⟨a,ha,h⟩:=h
    replace h:=Aa3 h;obtain ⟨s,hs,h⟩:=h
    obtain ⟨u,hu,hall⟩:=Dh0 h
    exact ⟨u,hu,fun w' K' hk=>Ab5 hti (Ad1 hv (Ab5 q (Ab5 r (Ab5 hm (by simp only [g];exact Bp3 ha (Ab5 hs (hall (fun u=>K' u w') hk)))))))⟩
  · exact h.elim
 case fieldAddr t x i=>
  replace h:=Aa3 h;obtain ⟨ti,hti,h⟩:=h
  split at h
  · rename_i fs g
    replace h:=Aa3 h;obtain ⟨f,hf,h⟩:=h
    replace h:=Aa3 h;obtain ⟨s,hs,h⟩:=h
    rcases As2 h with ⟨_,h⟩ | ⟨hb,h⟩
    · exact h.elim
    replace h:=Ab3 h;obtain ⟨v,hv,h⟩:=h
    split at h
    · replace h:=Am6 h;obtain ⟨a,ha,h⟩:=h
      exact ⟨_,h,fun w' K' hk=>Ab5 hti (by simp only [g];exact Ab5 hf (Ab5 hs (by rw [hb];exact Ad1 hv (Bp3 ha hk))))⟩
    · exact h.elim
  · exact h.elim
 case field t x i=>
  replace h:=Aa3 h;obtain ⟨ti,hti,h⟩:=h
  split at h
  · rename_i fs g
    replace h:=Aa3 h;obtain ⟨f,hf,h⟩:=h
    replace h:=Aa3 h;obtain ⟨s,hs,h⟩:=h
    replace h:=Ab3 h;obtain ⟨v,hv,h⟩:=h
    split at h
    · rcases As2 h with ⟨hb,h⟩ | ⟨hb,h⟩
      · exact ⟨_,h,fun w' K' hk=>Ab5 hti (by simp only [g];exact Ab5 hf (Ab5 hs (Ad1 hv (by simp only [hb];exact hk))))⟩
      · replace h:=Aa3 h;obtain ⟨u,hu,h⟩:=h
        exact ⟨_,h,fun w' K' hk=>Ab5 hti (by simp only [g];exact Ab5 hf (Ab5 hs (Ad1 hv (by simp only [hb];exact Ab5 hu hk))))⟩
    · exact h.elim
  · exact h.elim
 case indexAddr t x ix=>
  replace h:=Aa3 h;obtain ⟨ti,hti,h⟩:=h
  replace h:=Ab3 h;obtain ⟨v,hv,h⟩:=h
  replace h:=Ab3 h;obtain ⟨vi,hvi,h⟩:=h
  split at h
  · rename_i g
    replace h:=Aa3 h;obtain ⟨s,hs,o,p,h⟩:=h
    replace h:=Am6 h;obtain ⟨a,ha,h⟩:=h
    exact ⟨_,h,fun w' K' hk=>Ab5 hti (Ad1 hv (Ad1 hvi (by simp only [g];exact Ab5 hs ⟨o,p,Bp3 ha hk⟩)))⟩
  · rename_i g
    replace h:=Aa3 h;obtain ⟨s,hs,o,p,h⟩:=h
    replace h:=Am6 h;obtain ⟨a,ha,h⟩:=h
    exact ⟨_,h,fun w' K' hk=>Ab5 hti (Ad1 hv (Ad1 hvi (by simp only [g];exact Ab5 hs ⟨o,p,Bp3 ha hk⟩)))⟩
  · exact h.elim
 case index t x ix=>
  replace h:=Aa3 h;obtain ⟨ti,hti,h⟩:=h
  replace h:=Ab3 h;obtain ⟨v,hv,h⟩:=h
  replace h:=Ab3 h;obtain ⟨vi,hvi,h⟩:=h
  split at h
  · rename_i g
    replace h:=Aa3 h;obtain ⟨te,hte,h⟩:=h
    rcases As2 h with ⟨_,h⟩ | ⟨hb,o,p,u,hu,h⟩
    · exact h.elim
    exact ⟨_,h,fun w' K' hk=>Ab5 hti (Ad1 hv (Ad1 hvi (by simp only [g];exact Ab5 hte (by rw [hb];exact ⟨o,p,u,hu,hk⟩))))⟩
  · rename_i g
    obtain ⟨o,b,hb,h⟩:=h
    exact ⟨_,h,fun w' K' hk=>Ab5 hti (Ad1 hv (Ad1 hvi (by simp only [g];exact ⟨o,b,hb,hk⟩)))⟩
  · exact h.elim
 case extract x i=>
  replace h:=Ab3 h;obtain ⟨v,hv,h⟩:=h
  split at h
  · replace h:=Aa3 h;obtain ⟨u,hu,h⟩:=h
    exact ⟨_,h,fun w' K' hk=>Ad1 hv (Ab5 hu hk)⟩
  · exact h.elim
 case call c=>
  replace h:=Aa3 h;obtain ⟨args,hargs,h⟩:=h
  obtain ⟨callee,cargs,ts⟩:=c
  cases callee<;>simp only [Bn7] at hq<;>(try (cases hq;done))
  rename_i b
  have h':Ap4 T b ts.toList args w fun v _=>K v:=h
  suffices hs:∃ v,K v∧∀ (w':World) (K':Value→World→Prop),K' v w'→Ap4 T b ts.toList args w' K' by
   obtain ⟨v,hv,hall⟩:=hs
   exact ⟨v,hv,fun w' K' hk=>Ab5 hargs (hall w' K' hk)⟩
  cases b<;>simp only [Ej2] at hq<;>(try (cases hq;done))<;>simp only [Dc7] at hd<;>(try (cases hd;done))
  case cap=>exact Gi0 h'
  case len=>exact Gk2 h'
theorem Fp3 {ti:TI} {op:BinOp} {x y:Value} {w:World} {K:Value→Prop} (h:Cj3 ti op x y w fun v _=>K v) (w':World):Cj3 ti op x y w' fun v c=>K v∧∃ m,c=w'.drewN m:=by
 by_cases hf:∃ a b k,x = .float .f64 a∧y = .float .f64 b∧ti.d = .float k
 · obtain ⟨a,b,k,rfl,rfl,hk⟩:=hf
   simp only [Cj3,hk] at h ⊢
   cases op<;>simp only [Dp6,Gm5] at h ⊢ <;> (try exact h.elim)<;>first | exact ⟨h,0,rfl⟩ | exact fun r d hr=>⟨h r d hr,d,rfl⟩
 · unfold Cj3 at h
   split at h
   · split at h
     · exact ⟨h.1,h.2,0,rfl⟩
     · exact ⟨h.1,h.2,0,rfl⟩
     · rename_i op' e f
       obtain ⟨hk,h'⟩:=cond_true h
       obtain ⟨v,hv,hb⟩:=Df5 h'
       have hb':=hb (fun u=>K u∧∃ m,w'=w'.drewN m) ⟨hv,0,rfl⟩
       unfold Cj3
       cases op<;>first | exact Dj9 hk hb' | exact (e rfl).elim | exact (f rfl).elim
   · split at h
     · rename_i k hb
       exact absurd ⟨_,_,k,rfl,rfl,hb⟩ hf
     · exact h.elim
   · split at h
     · rename_i hb
       split at h<;>first | (simp only [Cj3,hb];exact ⟨h,0,rfl⟩) | exact h.elim
     · exact h.elim
   · split at h
     · rename_i hb
       split at h<;>first | (simp only [Cj3,hb];exact ⟨h,0,rfl⟩) | exact h.elim
     · exact h.elim
   · split at h
     · rename_i hb
       split at h<;>first | (simp only [Cj3,hb];exact ⟨h,0,rfl⟩) | exact h.elim
     · exact h.elim
   · split at h<;>first | exact ⟨h,0,rfl⟩ | exact h.elim
   · rename_i xs ys _
     obtain ⟨he,h⟩:=cond_true h
     unfold Gl5 at h
     split at h
     · rename_i hx hy
       split at h<;>first | (simp only [Cj3,Gl5,he,hx,hy,cond];exact ⟨h,0,rfl⟩) | exact h.elim
     · exact h.elim
   · exact h.elim
theorem Ey7 {s d:TD} {x:Value} {w:World} {K:Value→Prop} (h:Db9 s d x w fun v _=>K v) (w':World):Db9 s d x w' fun v a=>K v∧∃ m,a=w'.drewN m:=by
 unfold Db9 at h ⊢
 split at h
 · exact ⟨h,0,rfl⟩
 · exact ⟨h,0,rfl⟩
 · exact ⟨fun n hn=>⟨h.1 n hn,0,rfl⟩,fun hn n d hw=>⟨h.2 hn n d hw,d,rfl⟩⟩
 · exact ⟨h,0,rfl⟩
 · exact h.elim
theorem Ge4 {b:Bool} {x y:Value} {w:World} {K:Value→Prop} (h:mm2 b x y w fun v _=>K v) (w':World):mm2 b x y w' fun v a=>K v∧∃ m,a=w'.drewN m:=by
 unfold mm2 at h ⊢
 split at h
 · obtain ⟨hk,h⟩:=cond_true h
   exact Dj9 hk ⟨h,0,rfl⟩
 · rename_i p q
   unfold Fq0 at h ⊢
   cases ho:Ieee.double.order p q with
   | none=>rw [ho] at h;exact fun r d hr=>⟨h r d hr,d,rfl⟩
   | some o=>rw [ho] at h;cases o<;>exact ⟨h,0,rfl⟩
 · exact h.elim
theorem Do8 {b:Bool} {x y:Value} {w:World} {K K':Value→World→Prop} (hk:∀ v w,K v w→K' v w) (h:mm2 b x y w K):mm2 b x y w K':=by
 unfold mm2 at h ⊢
 split at h
 · obtain ⟨hb,h⟩:=cond_true h
   exact Dj9 hb (hk _ _ h)
 · rename_i p q
   unfold Fq0 at h ⊢
   cases ho:Ieee.double.order p q with
   | none=>rw [ho] at h;exact fun r d hr=>hk _ _ (h r d hr)
   | some o=>rw [ho] at h;cases o<;>exact hk _ _ h
 · exact h.elim
theorem Eo6 {b:Bool}:∀ {ys:List Value} {x:Value} {w:World} {K K':Value→World→Prop},(∀ v w,K v w→K' v w)→mmD b x ys w K→mmD b x ys w K'
 | [],_,_,_,_,hk,h=>hk _ _ h
 | _::_,_,_,_,_,hk,h=>Do8 (fun _ _ h=>Eo6 hk h) h
theorem Fc1 {b:Bool}:∀ {ys:List Value} {x:Value} {w:World} {K:Value→Prop},mmD b x ys w (fun v _=>K v)→∀ w',mmD b x ys w' fun v a=>K v∧∃ m,a=w'.drewN m
 | [],x,w,K,h,w'=>⟨h,0,rfl⟩
 | y::ys,x,w,K,h,w'=>by
   have c:mm2 b x y w fun v _=>∀ w'',mmD b v ys w'' fun v a=>K v∧∃ m,a=w''.drewN m:=Do8 (fun v a h=>Fc1 h) h
   refine Do8 (fun v a hh=>?_) (Ge4 c w')
   obtain ⟨hh,m,rfl⟩:=hh
   refine Eo6 (fun v a hh=>?_) (hh (w'.drewN m))
   obtain ⟨hk,m',rfl⟩:=hh
   exact ⟨hk,m+m',by rw [World.drewN_drewN]⟩
theorem Gi8 {e:Env} {ty:Nat} {op:Op} {w:World} {K:Value→Prop} (hq:Bn7 op=true) (hl:∀ t a,op ≠ .load t a) (h:opD P T e ty op w fun v _=>K v) (w':World) :
 opD P T e ty op w' fun v f=>K v∧∃ m,f=w'.drewN m:=by
 by_cases hd:Dc7 T op=false
 · obtain ⟨v,hv,hall⟩:=Fg1 hq hl hd h
   exact hall w' _ ⟨hv,0,rfl⟩
 · cases op<;>(try (cases hq;done))<;>(try exact absurd rfl hd)
   case binOp bop t x y g=>
    replace h:=Aa3 h
    obtain ⟨ti,hti,h⟩:=h
    replace h:=Ab3 h
    obtain ⟨a,ha,h⟩:=h
    replace h:=Ab3 h
    obtain ⟨b,hb,h⟩:=h
    exact Ab5 hti (Ad1 ha (Ad1 hb (Fp3 h w')))
   case convert s d x=>
    replace h:=Aa3 h
    obtain ⟨ts,hts,h⟩:=h
    replace h:=Aa3 h
    obtain ⟨td,htd,h⟩:=h
    replace h:=Ab3 h
    obtain ⟨v,hv,h⟩:=h
    exact Ab5 hts (Ab5 htd (Ad1 hv (Ey7 h w')))
   case call c=>
    replace h:=Aa3 h
    obtain ⟨args,hargs,h⟩:=h
    obtain ⟨callee,cargs,ts⟩:=c
    cases callee<;>simp only [Bn7] at hq<;>(try (cases hq;done))
    rename_i b
    have h':Ap4 T b ts.toList args w fun v _=>K v:=h
    suffices hs:Ap4 T b ts.toList args w' fun v f=>K v∧∃ m,f=w'.drewN m from Ab5 hargs hs
    clear h
    cases b<;>simp only [Ej2] at hq<;>(try (cases hq;done))<;>(try exact absurd rfl hd)
    all_goals (
     unfold Ap4 at h'
     split at h'<;>(try (rename_i hx;cases hx;done))<;>(try exact h'.elim)
     exact Fc1 h' w')
end
end Go.Eng
/-
  A region whose order Go leaves open, read in one order: sound for every order. No condition but that the table of types is the program's.
-/
namespace Go.Eng
open Go
section
variable {P:Program} {T:Nat→Option TI} {n:Nat} {Q:Exit→Act→World→Prop}
def Bq7 (H:List Da1) (w:World):Prop:=∀ f∈H,w.cell? f.2.1=some f.2.2
theorem Dh3 {k:Nat}:∀ {cs:List Ce} {a:Addr} {i:Nat} {w:World} {K:List Value→Prop},Fo3 cs a i w K →
 ∃ vs:List Value,K vs∧Bq7 (Ba0 k a i vs) w∧∀ (w':World) (K':List Value→Prop),Bq7 (Ba0 k a i vs) w'→K' vs→Fo3 cs a i w' K'
 | [],a,i,w,K,h=>⟨[],h,by simp [Ba0,Bq7],fun w' K' _ hk=>hk⟩
 | c::cs,a,i,w,K,h=>by
   have key:∃ v,(w.cell? (a.add i)=some v∧Fo3 cs a (i+1) w fun vs=>K (v::vs))∧∀ (w':World) (K':Value→Prop),w'.cell? (a.add i)=some v→K' v→ldC c w' (a.add i) K':=by
    unfold Fo3 ldC at h
    cases c<;>simp only [Ce.ex] at h
    case slice=>obtain ⟨x,y,z,h⟩:=h;exact ⟨_,h,fun w' K' b d=>⟨x,y,z,b,d⟩⟩
    all_goals (obtain ⟨x,h⟩:=h;exact ⟨_,h,fun w' K' b d=>⟨x,b,d⟩⟩)
   obtain ⟨v,⟨hv,h⟩,hre⟩:=key
   obtain ⟨vs,hk,hf,hall⟩:=Dh3 (k:=k) h
   refine ⟨v::vs,hk,?_,fun w' K' hf' hk'=>?_⟩
   · intro f hfm
     rcases List.mem_cons.1 hfm with rfl | hfm
     · exact hv
     · exact hf f hfm
   · exact hre w' _ (hf' _ (AD ..)) (hall w' _ (fun f hfm=>hf' f (AC _ hfm)) hk')
theorem Cs8 {k:Nat} {a:Addr}:∀ {vs:List Value} {i:Nat},∀ f∈Ba0 k a i vs,f.1=k
 | [],_,f,h=>by cases h
 | v::vs,i,f,h=>by
   rcases List.mem_cons.1 h with rfl | h
   · rfl
   · exact Cs8 f h
theorem Gk4 {c:Ce} {w:World} {x:Addr} {K:Value→Prop} (h:ldC c w x K):∃ v,w.cell? x=some v∧K v∧∀ (w':World) (K':Value→Prop),w'.cell? x=some v→K' v→ldC c w' x K':=by
 unfold ldC at h ⊢
 cases c<;>simp only [Ce.ex] at h ⊢
 case slice=>obtain ⟨x,y,z,h⟩:=h;exact ⟨_,h.1,h.2,fun w' K' a b=>⟨x,y,z,a,b⟩⟩
 all_goals (obtain ⟨x,h⟩:=h;exact ⟨_,h.1,h.2,fun w' K' a b=>⟨x,a,b⟩⟩)
theorem Eo1 {ti:TI} {a:Addr} {w:World} {K:Value→Prop} (h:cond ti.d.isAgg (Fo3 (ces (Ai5 ti.zero)) a 0 w fun vs=>K (.agg vs.toArray)) (ldC (Ce.of ti.zero) w a K)):Fn1 ti (.pointer (some a)) w K:=h
theorem Ea8 {e:Env} {k ty:Nat} {op:Op} {w:World} {K:Value→List Da1→Prop} (hq:Bn7 op=true) (h:Fc8 P T e k ty op w K) :
 ∃ (S:Value→Prop) (H:List Da1),(∀ v,S v→K v H)∧Bq7 H w∧(∀ f∈H,f.1=k) ∧
   (∀ w',Bq7 H w'→opD P T e ty op w' fun v g=>S v∧∃ m,g=w'.drewN m)∧(Dc7 T op=false→∀ v v',S v→S v'→v=v'):=by
 by_cases hl:∃ t a,op = .load t a
 · obtain ⟨t,a,rfl⟩:=hl
   have h':Ac6 (T t) fun ti=>Ar1 (ev e a) fun p=>Gr6 k ti p w K:=h
   replace h':=Aa3 h'
   obtain ⟨ti,hti,h'⟩:=h'
   replace h':=Ab3 h'
   obtain ⟨p,hp,h'⟩:=h'
   obtain ⟨o,rfl⟩:∃ o,p = .pointer o:=by cases p<;>first | exact ⟨_,rfl⟩ | exact (show False from h').elim
   have b:Ab6 o fun a=>cond ti.d.isAgg (Fo3 (ces (Ai5 ti.zero)) a 0 w fun vs=>K (.agg vs.toArray) (Ba0 k a 0 vs)) (ldC (Ce.of ti.zero) w a fun v=>K v [(k,a,v)]):=h'
   obtain ⟨x,rfl,b⟩:=Am6 b
   rcases As2 b with ⟨hb,b⟩ | ⟨hb,b⟩
   · obtain ⟨vs,hk,hf,hall⟩:=Dh3 (k:=k) b
     refine ⟨fun v=>v = .agg vs.toArray,Ba0 k x 0 vs,fun v hv=>by subst hv;exact hk,hf,Cs8,fun w' hf'=>?_,fun _ v v' c b=>c.trans b.symm⟩
     refine Ab5 hti (Ad1 hp (Eo1 ?_))
     rw [hb]
     exact hall w' _ hf' ⟨rfl,0,rfl⟩
   · obtain ⟨v,hv,hk,hall⟩:=Gk4 b
     refine ⟨fun u=>u=v,[(k,x,v)],fun u hu=>by subst hu;exact hk,?_,?_,fun w' hf'=>?_,fun _ v v' c b=>c.trans b.symm⟩
     · intro f hf;simp at hf;subst hf;exact hv
     · intro f hf;simp at hf;subst hf;rfl
     · refine Ab5 hti (Ad1 hp (Eo1 ?_))
       rw [hb]
       exact hall w' _ (hf' _ (List.mem_singleton.2 rfl)) ⟨rfl,0,rfl⟩
 · have hl':∀ t a,op ≠ .load t a:=fun t a he=>hl ⟨t,a,he⟩
   have h':opD P T e ty op w fun v _=>K v []:=by
    cases op<;>first | exact h | exact absurd rfl (hl' _ _)
   by_cases hd:Dc7 T op=false
   · obtain ⟨v,hv,hall⟩:=Fg1 hq hl' hd h'
     exact ⟨fun u=>u=v,[],fun u hu=>by subst hu;exact hv,(by intro f hf;cases hf),(by intro f hf;cases hf),fun w' _=>hall w' _ ⟨rfl,0,rfl⟩,fun _ v v' c b=>c.trans b.symm⟩
   · exact ⟨fun u=>K u [],[],fun u hu=>hu,(by intro f hf;cases hf),(by intro f hf;cases hf),fun w' _=>Gi8 hq hl' h' w',fun h=>absurd h hd⟩
theorem Cn1 {e:Env} {a:Act} (h:Rel n e a) {d:Option Nat} {v:Value} {K:Env→Prop} (hk:Fo1 n e d v K):∃ e',Rel n e' (a.put d v)∧K e':=Cz5 h hk
theorem Fv7 (hT:TOk P T) (hZ:Cf0 T) {ops:List Oper} {k:Nat} {o:Oper} {e:Env} {a:Act} {w:World} {K:Env→List Da1→Prop} (hr:Rel n e a) (hq:Bn7 o.op=true)
 (h:Gc8 P T n ops k o e w K) :
 ∃ (S:Value→Prop) (H:List Da1),(∀ v,S v→∃ e',Rel n e' (a.put o.dst v)∧K e' H)∧Bq7 H w∧(∀ f∈H,f.1=k) ∧
   ((Region.wanted o (yielded ops.toArray a.tmps)=true∧∀ w',Bq7 H w'→∃ v m,(execOp a.eval o).run P w' = .ok (.value v) (w'.drewN m)∧S v) ∨
     (Region.wanted o (yielded ops.toArray a.tmps)=false∧S undef))∧(Dc7 T o.op=false→∀ v v',S v→S v'→v=v'):=by
 have run:∀ {e:Env} (_:Rel n e a) {S:Value→Prop} {w':World},(opD P T e o.type o.op w' fun v q=>S v∧∃ m,q=w'.drewN m)→∃ v m,(execOp a.eval o).run P w' = .ok (.value v) (w'.drewN m)∧S v:=by
  intro e hr S w' h
  have c:=Ey8 hT hZ hr.ev h
  have d:=Dq3 (P:=P) hq a.eval w'
  generalize (execOp a.eval o).run P w'=r at *
  unfold Out at c
  split at c
  · obtain ⟨hs,m,rfl⟩:=c;exact ⟨_,m,rfl,hs⟩
  · exact d.elim
  · exact d.elim
  · exact c.elim
 unfold Gc8 at h
 cases hg:o.guard with
 | none=>
   simp only [hg] at h
   obtain ⟨S,H,c,d,i,l,p⟩:=Ea8 hq h
   exact ⟨S,H,fun v hv=>Cn1 hr (c v hv),d,i,.inl ⟨by simp [Region.wanted,hg],fun w' hf=>run hr (l w' hf)⟩,p⟩
 | some g=>
   obtain ⟨j,want⟩:=g
   simp only [hg] at h
   replace h:=Aa3 h
   obtain ⟨t,ht,h⟩:=h
   split at h
   · rename_i b hb
     have hy:=De0 hr ht hb
     have hwd:Region.wanted o (yielded ops.toArray a.tmps)=(b==want):=by simp [Region.wanted,hg,hy]
     rw [hwd]
     have hval:=hr.vals t _ hb
     rcases As2 h with ⟨hc,h'⟩ | ⟨hc,h'⟩
     · have hbw:b=want:=by cases want<;>cases b<;>simp_all
       subst hbw
       have hr':=hr.upd_same hval
       obtain ⟨S,H,c,d,i,l,p⟩:=Ea8 hq h'
       exact ⟨S,H,fun v hv=>Cn1 hr' (c v hv),d,i,.inl ⟨by simp,fun w' hf=>run hr' (l w' hf)⟩,p⟩
     · have hbw:b = !want:=by cases want<;>cases b<;>simp_all
       subst hbw
       have hr':=hr.upd_same hval
       exact ⟨fun u=>u=undef,[],fun v hv=>by subst hv;exact Cn1 hr' h',(by intro f hf;cases hf),(by intro f hf;cases hf),.inr ⟨by simp,rfl⟩,fun _ v v' c d=>c.trans d.symm⟩
   · rename_i v hv hnb
     have hy:=Dg6 hr ht hnb (fun b hb=>hv b hb)
     exact ⟨fun u=>u=undef,[],fun v hv=>by subst hv;exact Cn1 hr h,(by intro f hf;cases hf),(by intro f hf;cases hf),.inr ⟨by simp [Region.wanted,hg,hy],rfl⟩,fun _ v v' c d=>c.trans d.symm⟩
   · exact h.elim
def Cof (ops:Array Oper) (H:List Da1) (l:Array Bool) (w:World):Prop:=
 ∀ f∈H,(∀ d od,ops[d]?=some od→Bn7 od.op=false→l.getD d false=true→Az0 ops f.1 4 od=false)→w.cell? f.2.1=some f.2.2
theorem De5 {o:Oper} {i:Nat}:Fo7 o i=true↔∃ e∈o.after,Region.binds .any e=true∧e.on=i:=by
 unfold Fo7
 simp only [List.any_eq_true]
 constructor
 · rintro ⟨e,he,h⟩
   cases hb:Region.binds .any e with
   | false=>rw [hb] at h;simp at h
   | true=>rw [hb] at h;exact ⟨e,by simpa using he,hb,AB h⟩
 · rintro ⟨e,he,hb,rfl⟩
   exact ⟨e,by simpa using he,by simp [hb]⟩
theorem Df9:∀ {H:List Da1} {w:World} {K:Prop},Fp6 H w K→Bq7 H w∧K
 | [],w,K,h=>⟨(by intro f hf;cases hf),h⟩
 | f::H,w,K,h=>by
   obtain ⟨a,b⟩:=Df9 h.2
   refine ⟨fun g hg=>?_,b⟩
   rcases List.mem_cons.1 hg with rfl | hg
   · exact h.1
   · exact a g hg
theorem Ds6 {ops:Array Oper} {o:Oper}:∀ {H:List Da1} {f:Da1},f∈H→Az0 ops f.1 4 o=false→f∈Ff5 ops o H
 | g::H,f,hf,hw=>by
   simp only [Ff5]
   rcases List.mem_cons.1 hf with rfl | hf
   · rw [hw];exact AD ..
   · have:=Ds6 hf hw
     cases Az0 ops g.1 4 o
     · exact AC _ this
     · exact this
theorem Bj2 {ops:Array Oper} {k:Nat}:∀ (f:Nat) {o:Oper},Az0 ops k f o=true→∃ e∈o.after,Region.binds .any e=true∧Beh ops k e.on
 | 0,o,h=>by
   obtain ⟨e,he,hb,hon⟩:=De5.1 h
   exact ⟨e,he,hb,by rw [hon];exact .self⟩
 | f+1,o,h=>by
   unfold Az0 at h
   rcases Bool.or_eq_true_iff.1 h with h | h
   · obtain ⟨e,he,hb,hon⟩:=De5.1 h
     exact ⟨e,he,hb,by rw [hon];exact .self⟩
   · obtain ⟨e,he,h⟩:=List.any_eq_true.1 h
     cases hb:Region.binds .any e with
     | false=>rw [hb] at h;cases h
     | true=>
       rw [hb] at h
       cases hp:ops[e.on]? with
       | none=>rw [hp] at h;cases h
       | some p=>
         rw [hp] at h
         obtain ⟨c,a,b,hbe⟩:=Bj2 f h
         exact ⟨e,by simpa using he,hb,.step hp a b hbe⟩
theorem Dc5 {ops:Array Oper} {l:Array Bool} {k:Nat} (h:Ct6 ops l k=true) (j:Nat) (oj:Oper) (hj:ops[j]?=some oj) (hun:l.getD j true=false) (_:j≠k)
 (hno:∀ e∈oj.after,Region.binds .any e=true → ¬ Beh ops k e.on):Bn7 oj.op=true:=by
 unfold Ct6 at h
 have:=List.all_eq_true.1 h j (List.mem_range.2 (Array.getElem?_eq_some_iff.1 hj).1)
 rw [hun,hj] at this
 simp only [AF,AI] at this
 rcases this with h | h
 · exact h
 · obtain ⟨e,he,hb,hbe⟩:=Bj2 4 h
   exact absurd hbe (hno e he hb)
theorem Gk9 (hT:TOk P T) (hZ:Cf0 T) {ops:List Oper} {K:Env→World→Prop} {p:Nat→Prop} {a0:Act} (hsel:Region.noSelect ops.toArray=true) (hQp:∀ c a w,¬ Q (.panic c) a w)
 (hp:∀ o∈ops,∀ t,o.dst=some t→p t) (hQ:∀ e' a' w',Rel n e' a'→Fr p a0 a'→K e' w'→Q .normal a' w') :
 ∀ (fuel:Nat) (ord:Ord) (listed:Array Bool) (H:List Da1) (e:Env) (a:Act) (w:World),Bl4 ops.toArray listed→Rel n e a→Fr p a0 a→Cof ops.toArray H listed w→Fy6 P T n ops ord H e w K →
   (Ay0 T ops.toArray ord true fuel listed=true→wpC P ops.toArray Q (Cof ops.toArray H) fuel listed a w) ∧
   (∀ f,fuel=f+1→Ay0 T ops.toArray ord false fuel listed=true→∀ k∈Ee6 ord,k∈Region.ready .any ops.toArray listed→∀ m,wpOp P ops.toArray Q k (fun a' w'=>Cof ops.toArray H (listed.setIfInBounds k true) w'∧wpC P ops.toArray Q (Cof ops.toArray H) f (listed.setIfInBounds k true) a' w') a (w.drewN m)):=by
 intro fuel
 induction fuel with
 | zero=>
   intro ord
   induction ord with
   | done=>
     intro listed H e a w hcl hr hf hC h
     refine ⟨fun hB=>?_,fun f hf=>by cases hf⟩
     simp only [Ay0,AA] at hB
     exact ⟨by simpa using hB.2,fun m=>hQ _ _ _ hr hf (h m)⟩
   | q k r _=>intro listed H e a w hcl hr hf hC h;exact ⟨fun hB=>by simp [Ay0] at hB,fun f hf=>by cases hf⟩
   | e k r _=>intro listed H e a w hcl hr hf hC h;exact ⟨fun hB=>by simp [Ay0] at hB,fun f hf=>by cases hf⟩
   | alt x y ihx ihy=>
     intro listed H e a w hcl hr hf hC h
     refine ⟨fun hB=>?_,fun f hf=>by cases hf⟩
     simp only [Ay0,AA] at hB
     -- a branch without fuel is none
     have none_:∀ o:Ord,Ay0 T ops.toArray o false 0 listed=true→False:=by
      intro o
      induction o with
      | done=>intro h;simp [Ay0] at h
      | q k r _=>intro h;simp [Ay0] at h
      | e k r _=>intro h;simp [Ay0] at h
      | alt x y ihx _=>intro h;simp only [Ay0,AA] at h;exact ihx h.1.2
     exact (none_ x hB.1.2).elim
 | succ fuel ih=>
   -- what acts
   have actE:∀ (k:Nat) (r:Ord) (listed:Array Bool) (H:List Da1) (e:Env) (a:Act) (w:World),Bl4 ops.toArray listed→Rel n e a→Fr p a0 a→Fy6 P T n ops (.e k r) H e w K →
    Ay0 T ops.toArray r true fuel (listed.setIfInBounds k true)=true→k∈Region.ready .any ops.toArray listed →
    ∀ m,wpOp P ops.toArray Q k (fun a' w'=>Cof ops.toArray H (listed.setIfInBounds k true) w'∧wpC P ops.toArray Q (Cof ops.toArray H) fuel (listed.setIfInBounds k true) a' w') a (w.drewN m):=by
    intro k r listed H e a w hcl hr hf h hB hrd m
    obtain ⟨o,ho,h⟩:=Aa3 h
    rw [Ax2] at ho
    have ho':ops.toArray[k]?=some o:=by simpa using ho
    have hmem:o∈ops:=AE ho
    have hclk:=hcl.set hrd
    have hlt:k<listed.size:=by
     have:=(mem_ready.1 hrd).1
     rcases Nat.lt_or_ge k listed.size with h' | h'
     · exact h'
     · simp [Array.getElem?_eq_none h'] at this
    have hkl:(listed.setIfInBounds k true).getD k false=true:=by simp [hlt]
    have fin:∀ e' (v:Value) w',Rel n e' (a.put o.dst v)→(Fp6 (Dn1 ops.toArray o H) w' (Fy6 P T n ops r (Dn1 ops.toArray o H) e' w' K)) →
     Cof ops.toArray H (listed.setIfInBounds k true) w'∧wpC P ops.toArray Q (Cof ops.toArray H) fuel (listed.setIfInBounds k true) (a.put o.dst v) w':=by
     intro e' v w' hr' hh
     obtain ⟨hfo,hh⟩:=Df9 hh
     have imp:∀ l w,Ext (listed.setIfInBounds k true) l→Cof ops.toArray (Dn1 ops.toArray o H) l w→Cof ops.toArray H l w:=by
      intro l w hx hc f hfm hact
      cases hnq:Bn7 o.op with
      | true=>exact hc f (by unfold Dn1;rw [hnq];exact hfm) hact
      | false=>
        have hw:Az0 ops.toArray f.1 4 o=false:=hact k o ho' hnq (hx k hkl)
        exact hc f (by unfold Dn1;rw [hnq];exact Ds6 hfm hw) hact
     have hC':Cof ops.toArray (Dn1 ops.toArray o H) (listed.setIfInBounds k true) w':=fun f hfm _=>hfo f hfm
     refine ⟨imp _ _ (Ext.refl _) hC',?_⟩
     have:=(ih r (listed.setIfInBounds k true) (Dn1 ops.toArray o H) e' (a.put o.dst v) w' hclk hr' (hf.trans (Fr.put (fun t ht=>hp o hmem t ht) v)) hC' hh).1 hB
     exact Dm3 fuel _ _ _ _ (Ext.refl _) imp this
    have:=Em1 (Q:=Q) (next:=fun a' w'=>Cof ops.toArray H (listed.setIfInBounds k true) w'∧wpC P ops.toArray Q (Cof ops.toArray H) fuel (listed.setIfInBounds k true) a' w') hT hZ hr (h m) fun e' v w' hr' hkk=>fin e' v w' hr' hkk
    unfold wpOp
    simp only [ho']
    split
    · rename_i hw;rw [if_pos hw] at this;exact .inl this
    · rename_i hw;rw [if_neg hw] at this;exact this
   intro ord
   induction ord with
   | done=>intro listed H e a w hcl hr hf hC h;exact ⟨fun hB=>by simp [Ay0] at hB,fun f hf hB k hk=>by cases hk⟩
   | q k r _=>
     intro listed H e a w hcl hr hf hC h
     refine ⟨fun hB=>?_,fun f hf hB k hk=>by cases hk⟩
     simp only [Ay0,AA,Bool.true_and] at hB
     obtain ⟨⟨⟨hrd,hfree⟩,hq⟩,hB'⟩:=hB
     have hrd':k∈Region.ready .any ops.toArray listed:=by simpa using hrd
     obtain ⟨o,ho,h⟩:=Aa3 h
     rw [Ax2] at ho
     have ho':ops.toArray[k]?=some o:=by simpa using ho
     rw [ho'] at hq
     simp only [AA,AI] at hq
     obtain ⟨z,s⟩:=hq
     have hmem:o∈ops:=AE ho
     obtain ⟨S,F,g,u,h3,b,h5⟩:=Fv7 hT hZ hr z h
     have hne:∃ v,S v:=by
      rcases b with ⟨_,b⟩ | ⟨_,b⟩
      · obtain ⟨v,_,_,hv⟩:=b w u;exact ⟨v,hv⟩
      · exact ⟨_,b⟩
     have hclk:=hcl.set hrd'
     have hCi:∀ l w,Cof ops.toArray (F++H) (l.setIfInBounds k true) w↔Cof ops.toArray (F++H) l w:=by
      intro l w
      have keep:∀ d od,ops.toArray[d]?=some od→Bn7 od.op=false→(l.setIfInBounds k true).getD d false=l.getD d false:=by
       intro d od hd hnq
       have hdk:k≠d:=by
        intro e;subst e
        rw [ho'] at hd;cases hd
        rw [z] at hnq;cases hnq
       exact getD_set_ne false hdk
      constructor
      · intro hc f hfm hact
        exact hc f hfm fun d od hd hnq hl=>hact d od hd hnq (by rw [keep d od hd hnq] at hl;exact hl)
      · intro hc f hfm hact
        exact hc f hfm fun d od hd hnq hl=>hact d od hd hnq (by rw [keep d od hd hnq];exact hl)
     have hCF:Cof ops.toArray (F++H) listed w:=by
      intro f hfm hact
      rcases List.mem_append.1 hfm with hfm | hfm
      · exact u f hfm
      · exact hC f hfm hact
     refine Dm3 (C':=Cof ops.toArray (F++H)) (fuel+1) listed listed a w (Ext.refl _) (fun l w _ hc f hfm=>hc f (List.mem_append_right _ hfm)) ?_
     refine Fi6 (S:=S) ho' (Region.noSelect_spec hsel) (fun l w n hc f hfm hact=>hc f hfm hact) hCi hQp hne fuel listed a w ?_ (Region.free_spec ho' hfree) hrd' hcl hCF ?_ ?_
     · rcases s with s | s
       · exact .inl (h5 (by simpa using s))
       · exact .inr (Dc5 s)
     · rcases b with ⟨hw,b⟩ | ⟨hw,b⟩
       · refine .inl ⟨hw,fun l w' hcl' hun hc=>?_⟩
         obtain ⟨v,m,hrun,hv⟩:=b w' fun f hfm=>hc f (List.mem_append_left _ hfm) fun d od hd hnq hl=>by
          cases hwt:Az0 ops.toArray f.1 4 od with
          | false=>rfl
          | true=>
            exfalso
            obtain ⟨ed,hed,hb,hbe⟩:=Bj2 4 hwt
            have g:=hcl' d od hd hl ed hed hb
            rw [h3 f hfm] at hbe
            rw [hbe.unlisted hcl' hun] at g
            cases g
         exact ⟨v,m,hrun,hv⟩
       · exact .inr ⟨hw,b⟩
     · intro v hv
       obtain ⟨e',hr',hk⟩:=g v hv
       exact (ih r (listed.setIfInBounds k true) (F++H) e' (a.put o.dst v) w hclk hr' (hf.trans (Fr.put (fun t ht=>hp o hmem t ht) v)) ((hCi _ _).2 hCF) hk).1 hB'
   | e k r _=>
     intro listed H e a w hcl hr hf hC h
     have body:∀ chk,Ay0 T ops.toArray (.e k r) chk (fuel+1) listed=true→Ay0 T ops.toArray r true fuel (listed.setIfInBounds k true)=true:=by
      intro chk hB
      simp only [Ay0,AA] at hB
      exact hB.2
     refine ⟨fun hB m=>?_,fun f hfu hB k' hk' hrd m=>?_⟩
     · have hb:=body true hB
       simp only [Ay0,AA] at hB
       have hall:=hB.1.1
       simp only [Bool.not_true,AF,AA,AH] at hall
       replace hall:=hall.2
       have only:∀ j∈Region.ready .any ops.toArray listed,j=k:=fun j hj=>by have:=hall j hj;simpa using this
       refine ⟨fun hnil=>?_,fun i hi=>?_⟩
       · have hne:=hB.1.1
         rw [hnil] at hne
         simp at hne
       · obtain rfl:=only i hi
         exact actE i r listed H e a w hcl hr hf h hb hi m
     · have hb:=body false hB
       simp only [Ee6,List.mem_singleton] at hk'
       subst hk'
       cases hfu
       exact actE k' r listed H e a w hcl hr hf h hb hrd m
   | alt x y ihx ihy=>
     intro listed H e a w hcl hr hf hC h
     obtain ⟨g,u⟩:=h
     have hx:=ihx listed H e a w hcl hr hf hC g
     have hy:=ihy listed H e a w hcl hr hf hC u
     have both:∀ chk,Ay0 T ops.toArray (.alt x y) chk (fuel+1) listed=true→∀ k∈Ee6 (.alt x y),k∈Region.ready .any ops.toArray listed→∀ m,wpOp P ops.toArray Q k (fun a' w'=>Cof ops.toArray H (listed.setIfInBounds k true) w'∧wpC P ops.toArray Q (Cof ops.toArray H) fuel (listed.setIfInBounds k true) a' w') a (w.drewN m):=by
      intro chk hB k hk hrd m
      simp only [Ay0,AA] at hB
      rcases List.mem_append.1 hk with hk | hk
      · exact hx.2 fuel rfl hB.1.2 k hk hrd m
      · exact hy.2 fuel rfl hB.2 k hk hrd m
     refine ⟨fun hB m=>?_,fun f hfu hB k hk hrd m=>by cases hfu;exact both false hB k hk hrd m⟩
     have hb:=both true hB
     simp only [Ay0,AA] at hB
     have hall:=hB.1.1
     simp only [Bool.not_true,AF,AA,AH] at hall
     refine ⟨fun hnil=>?_,fun i hi=>?_⟩
     · have hne:=hall.1
       rw [hnil] at hne
       simp at hne
     · exact hb i (by have:=hall.2 i hi;simpa using this) hi m
theorem Dr3 (ops:Array Oper) (m:Nat):Bl4 ops (Array.replicate m false):=by
 intro j oj _ hl
 rw [getD_replicate_false] at hl
 cases hl
theorem Ev8 (hT:TOk P T) (hZ:Cf0 T) (hm:P.follows .mixedOrders=true) {id:Nat} {ops:Array Oper} {draw:Bool} {ord:Option Ord} {e:Env} {a:Act} {w:World} {K:Env→World→Prop} (hr:Rel n e a)
 (h:Eg2 P T n ops.toList draw ord e w K) {p:Nat→Prop} (hp:∀ o∈ops.toList,∀ t,o.dst=some t→p t) (hQp:∀ c a w,¬ Q (.panic c) a w)
 (hQ:∀ e' a' w',Rel n e' a'→Fr p a a'→K e' w'→Q .normal a' w'):(Code.region id ops draw).wp P Q a w:=by
 unfold Eg2 at h
 split at h
 · refine wp_region_list ?_
   have:=Fc4 (Q:=Q) hT hZ hr h a p hp (Fr.refl _ _) hQ
   simpa using this
 · rename_i o
   obtain ⟨hB,h⟩:=cond_true h
   have hB2:Region.noSelect ops=true∧Ay0 T ops o true ops.size (Array.replicate ops.size false)=true:=by
    cases hs:Region.noSelect ops.toList.toArray with
    | false=>rw [hs] at hB;cases hB
    | true=>rw [hs] at hB;exact ⟨rfl,by simpa using hB⟩
   refine wp_region_any hm (De8 (C:=Cof ops []) _ _ _ _ ?_)
   have:=(Gk9 (Q:=Q) (a0:=a) hT hZ (ops:=ops.toList) hB2.1 hQp hp hQ ops.size o (Array.replicate ops.size false) [] e a w (Dr3 _ _) hr (Fr.refl _ _) (by intro f hf;cases hf) h).1 hB2.2
   have:=Bz7 this 1
   simpa [World.drew_is_drewN] using this
 · exact h.elim
end
end Go.Eng
