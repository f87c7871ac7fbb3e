/-
  RefineNever, the plain law: what Until answers leaves no more than the first solution, less where a step counted; one step more allowed changes nothing or leaves less. Its condition: floats that are floats.
-/
import Derived.Test.YtgbilchfljlbeaaGreatDoorSolX
import Derived.Test.YtgbilchfljlbeaaGreatDoorLw14k
import Derived.Test.YtgbilchfljlbeaaGreatDoorWk
import Derived.Test.YtgbilchfljlbeaaGreatDoorLw0
import Derived.Test.YtgbilchfljlbeaaGreatDoorRow2
set_option linter.all false
set_option maxRecDepth 100000
set_option maxHeartbeats 400000
namespace Go.Eng
open Go
theorem pick12 (q:Int):∃ k:Nat,T_k_Pick q 12=some (k:Int)∧k<12:=by
  unfold T_k_Pick
  have nz12:nz 12=some ():=rfl
  rw [cond_f (by decide),nz12,Option.bind_some]
  have h1:q.tmod 12<12:=Int.tmod_lt_of_pos _ (by decide)
  have h2 : -12<q.tmod 12:=Int.lt_tmod_of_pos _ (by decide)
  by_cases h:q.tmod 12<0
  · rw [decide_eq_true h,cT,Option.bind_some]
    refine ⟨(q.tmod 12+12).toNat,?_,by omega⟩
    rw [wrI (by omega) (by omega)]
    congr 1
    omega
  · rw [decide_eq_false h,cF,Option.bind_some]
    exact ⟨(q.tmod 12).toNat,by congr 1;omega,by omega⟩
theorem leftn_t (r c:Int) {A:List Nat} (q:Int) (l d X:List Nat) {b:List Nat} (kA:A.length≤1048576) (kb:b.length≤1048576) {x:List Nat} (hx:x.length≤1048576) :
    T_w14_left r c A q l d X b x=some (nvx r c A b x,((leftF r c A x b).2==0)):=by
  unfold T_w14_left
  rw [xleft_t r c kA hx kb,Option.bind_some]
  dsimp only
  rw [nvx_t];rfl
theorem goU_ok (r c:Int) {A:List Nat} (q:Int) (l d:List Nat) {b:List Nat} (kA:A.length≤1048576) (kb:b.length≤1048576):∀ k x,x.length≤48→(∀ p∈x,p<18446744073709551616)→(goU r c A q l d b k x).1.length≤48
  | 0,_,h,_=>h
  | k + 1, x, h, w => by
    obtain ⟨y,e,s1,s2,s3⟩:=step_x r c q l d kA kb x (by omega) w
    have e1:stepU r c A q l d b x=(y,e):=by unfold stepU;rw [s1];rfl
    unfold goU
    rw [e1]
    split
    · rename_i hc
      exact goU_ok r c q l d kA kb k y s2 (s3 hc.1)
    · exact h
theorem untilF_or (r c:Int) (A:List Nat) (q:Int) (l d b x:List Nat) (e:Int):(∃ f:Int,f≠0∧∀ m:Nat,m≤64→untilF r c A q l d b x e (m:Int)=([],0,f)) ∨
    (e=0∧(leftF r c A x b).2=0∧∀ m:Nat,m≤64→untilF r c A q l d b x e (m:Int)=((goU r c A q l d b m x).1,(((goU r c A q l d b m x).2:Nat):Int),0)):=by
  have st:∀ m:Nat,m≤64 → ¬ ((m:Int)<0∨64<(m:Int)):=fun m h=>by omega
  by_cases c1 : ¬ (T_refine_fits r c A q l d=some true∧((b.length:Nat):Int)=r)
  · exact .inl ⟨4,by decide,fun m h=>by unfold untilF;rw [if_neg (st m h),if_pos c1]⟩
  by_cases c2 : ¬ (allF A&&allF b)=true
  · exact .inl ⟨5,by decide,fun m h=>by unfold untilF;rw [if_neg (st m h),if_neg c1,if_pos c2]⟩
  by_cases c3:e≠0
  · exact .inl ⟨e,c3,fun m h=>by unfold untilF;rw [if_neg (st m h),if_neg c1,if_neg c2,if_pos c3]⟩
  by_cases c4 : ¬ allF x=true
  · exact .inl ⟨6,by decide,fun m h=>by unfold untilF;rw [if_neg (st m h),if_neg c1,if_neg c2,if_neg c3,if_pos c4]⟩
  by_cases c5:(leftF r c A x b).2≠0
  · exact .inl ⟨_,c5,fun m h=>by unfold untilF;rw [if_neg (st m h),if_neg c1,if_neg c2,if_neg c3,if_neg c4,if_pos c5]⟩
  · exact .inr ⟨by omega,by omega,fun m h=>by unfold untilF;rw [if_neg (st m h),if_neg c1,if_neg c2,if_neg c3,if_neg c4,if_neg c5,Int.toNat_natCast]⟩
theorem never14 {r c q:Int} {A l d X b:List Nat} (most:Int):T_w14_RefineNever r c A q l d X b most=some true:=by
  unfold T_w14_RefineNever
  rw [awake14]
  simp only [Option.bind_some,Bool.not_true,cF,great14]
  by_cases gA:100<A.length
  · rw [decide_eq_true gA];rfl
  · rw [decide_eq_false gA,Bool.not_false,cT]
    by_cases gb:100<b.length
    · rw [decide_eq_true (show ((b.length:Nat):Int)>100 by omega)];rfl
    · rw [decide_eq_false (show ¬ ((b.length:Nat):Int)>100 by omega),Option.bind_some,cF]
      obtain ⟨k,hp,hk⟩:=pick12 most
      rw [hp]
      simp only [Option.bind_some]
      obtain ⟨x,e,s1,s2,s3,s4⟩:=solve_x q l d b
      have kA:A.length≤1048576:=by omega
      have kb:b.length≤1048576:=by omega
      rw [wrU (by omega),until_x r c A q l d b kA kb (step_x r c q l d kA kb) s1 s2 s4 _,until_x r c A q l d b kA kb (step_x r c q l d kA kb) s1 s2 s4 _]
      rcases untilF_or r c A q l d b x e with ⟨f,h4,h1⟩ | ⟨h1,h2,h3⟩
      · rw [h1 k (by omega),h1 (k+1) (by omega)]
        simp only [Option.bind_some,bne_self_eq_false,Bool.not_false,cT]
        rw [bne_iff_ne.2 h4]
        simp only [Option.bind_some,cT,beq_self_eq_true]
        rfl
      · have h4:=h3 (k+1) (by omega)
        replace h3:=h3 k (by omega)
        rw [h3,h4]
        simp only [Option.bind_some,bne_self_eq_false,Bool.not_false,cT,cF]
        rw [s1,Option.bind_some]
        dsimp only
        have w0:=goU_ok r c (A:=A) q l d (b:=b) kA kb k x s2 s4
        have w1:=goU_ok r c (A:=A) q l d (b:=b) kA kb (k+1) x s2 s4
        rw [leftn_t r c q l d X kA kb (by omega),leftn_t r c q l d X kA kb (by omega),leftn_t r c q l d X kA kb (by omega)]
        obtain ⟨a1,a2,a3,a4⟩:=goU_less r c A q l d b k x h2
        obtain ⟨b1,b2,b3,b4⟩:=goU_less r c A q l d b (k+1) x h2
        have a5:=goU_le r c A q l d b k x
        have b5:=goU_le r c A q l d b (k+1) x
        have nx:=goU_next r c A q l d b k x
        have g0:=nvx_gd r c A b x
        have g1:=nvx_gd r c A b (goU r c A q l d b k x).1
        have g2:=nvx_gd r c A b (goU r c A q l d b (k+1) x).1
        have hle:nvx r c A b (goU r c A q l d b (k+1) x).1≤nvx r c A b (goU r c A q l d b k x).1∧(goU r c A q l d b k x).2≤(goU r c A q l d b (k+1) x).2∧(goU r c A q l d b (k+1) x).2≤(goU r c A q l d b k x).2+1:=by
          rcases nx with h | ⟨n1,n2,n3⟩
          · rw [h];exact ⟨Nat.le_refl _,Nat.le_refl _,Nat.le_succ _⟩
          · omega
        simp only [Option.bind_some,a1,b1,h1,h2,beq_self_eq_true,bne_self_eq_false,Bool.not_true,Bool.not_false,cT]
        rw [decide_eq_false (show ¬ (((goU r c A q l d b k x).2:Nat):Int)<0 by omega),Bool.not_false,cT,decide_eq_false (show ¬ (((goU r c A q l d b k x).2:Nat):Int)>(k:Int) by omega),Bool.not_false,cT,decide_eq_false (show ¬ (((goU r c A q l d b (k+1) x).2:Nat):Int)<(((goU r c A q l d b k x).2:Nat):Int) by omega),Bool.not_false,cT,wrU (by omega),decide_eq_false (show ¬ (((goU r c A q l d b (k+1) x).2:Nat):Int)>(((goU r c A q l d b k x).2+1:Nat):Int) by omega),Bool.not_false,cT]
        rw [fgt_gd g1 g0,decide_eq_false (by omega),Bool.not_false,cT,fgt_gd g2 g1,decide_eq_false (by omega),Option.bind_some,cF]
        rw [flt_gd g1 g0,flt_gd g2 g1]
        have tail:(cond ((((goU r c A q l d b (k+1) x).2:Nat):Int)==(((goU r c A q l d b k x).2:Nat):Int)) ((T_k_SameReals (goU r c A q l d b k x).1 (goU r c A q l d b (k+1) x).1).bind fun t=>some t) (cond ((((goU r c A q l d b k x).2:Nat):Int)==(k:Int)) (some (decide (nvx r c A b (goU r c A q l d b (k+1) x).1<nvx r c A b (goU r c A q l d b k x).1))) (some false)))=some true:=by
          rcases nx with h | ⟨n1,n2,n3⟩
          · rw [h,beq_self_eq_true,cT,sameReals_t (by omega),beq_self_eq_true];rfl
          · rw [cond_f (by rw [beq_eq_false_iff_ne];omega),cond_t (by rw [beq_iff_eq];omega),decide_eq_true n3]
        by_cases hz:(goU r c A q l d b k x).2=0
        · have e0:(goU r c A q l d b k x).1=x:=a4 hz
          rw [cond_t (by rw [beq_iff_eq];omega),sameReals_t (by omega),e0,beq_self_eq_true]
          simp only [Option.bind_some,Bool.not_true,Bool.not_false,cT]
          rw [cond_f (by rw [decide_eq_false_iff_not];omega)]
          rw [e0] at tail
          exact tail
        · rw [cond_f (by rw [beq_eq_false_iff_ne];omega),cond_t (by rw [decide_eq_true_eq];omega),decide_eq_true (a3 (by omega))]
          simp only [Bool.not_true,cF]
          exact tail
section
variable {N:Nums} {P:Program} (H:AllOk N P)
include H
theorem never14_f {r c q most:Int} {sa sl sd sx sb:Option Addr} {na ma nl ml nd md nx mx nb mb:Nat} {la ll ld lx lb:List Nat} {w:World} (hA:Reals w sa na ma la) (hL:Reals w sl nl ml ll) (hD:Reals w sd nd md ld) (hX:Reals w sx nx mx lx) (hB:Reals w sb nb mb lb)
    (hG:tab64 N.g_1 w) :
    CallsX P N.f_w14_RefineNever #[.agg #[.int .i64 r,.int .i64 c,.slice sa na ma,.int .i64 q,.slice sl nl ml,.slice sd nd md,.slice sx nx mx,.slice sb nb mb],.int .i64 most] w fun v w'=>v = .bool true∧∃ M,St w w' M:=by
  have hS:=((((((Ho.start w).arg own_nil hG).arg (own_cons rfl own_nil) (.ofReals hB)).arg (own_cons rfl (own_cons rfl own_nil)) (.ofReals hX)).arg (own_cons rfl (own_cons rfl (own_cons rfl own_nil))) (.ofReals hD)).arg (own_cons rfl (own_cons rfl (own_cons rfl (own_cons rfl own_nil)))) (.ofReals hL)).arg (own_cons rfl (own_cons rfl (own_cons rfl (own_cons rfl (own_cons rfl own_nil))))) (.ofReals hA)
  exact wk_w14_RefineNever H hS (Ent.rd mp0) (Ent.rd mp1) (Ent.rd mp2) (Ent.rd mp3) (Ent.rd mp4) (Ent.rd mp5) (never14 most) fun w1 h=>⟨rfl,h.some_old⟩
end
end Go.Eng
