
/-
  RefineSteps, the plain law: one step is what the document says. Its condition: floats that are floats.
-/
import Derived.Test.YtgbilchfljlbeaaGreatDoorLe
import Derived.Test.YtgbilchfljlbeaaGreatDoorScl3
import Derived.Test.YtgbilchfljlbeaaGreatDoorPf2A
import Derived.Test.YtgbilchfljlbeaaGreatDoorPv2
import Derived.Test.YtgbilchfljlbeaaGreatDoorLw14k
import Derived.Test.YtgbilchfljlbeaaGreatDoorWk
import Derived.Test.YtgbilchfljlbeaaGreatDoorLw0
import Derived.Test.YtgbilchfljlbeaaGreatDoorRow2
set_option linter.all false
set_option maxRecDepth 100000
set_option maxHeartbeats 400000
namespace Go.Eng
open Go
theorem fits14_e (r c:Int) (A:List Nat) (q:Int) (l d:List Nat):T_r14_fits r c A q l d=T_refine_fits r c A q l d:=rfl
theorem fits_cases (r c:Int) (A:List Nat) (q:Int) (l d:List Nat):T_refine_fits r c A q l d=some false∨(T_refine_fits r c A q l d=some true∧r=q∧c=q):=by
  unfold T_refine_fits
  rw [mright_t,Option.bind_some]
  cases rightB r c A.length with
  | false=>exact .inl rfl
  | true =>
    rw [cT]
    rcases right_cases q l d with ⟨h,_⟩ | h
    · rw [h,Option.bind_some,cT]
      by_cases c1:r=q
      · rw [cond_t (by simpa using c1)]
        by_cases c2:c=q
        · exact .inr ⟨by rw [beq_iff_eq.2 c2],c1,c2⟩
        · exact .inl (by rw [beq_eq_false_iff_ne.2 c2])
      · rw [cond_f (by simpa using c1)];exact .inl rfl
    · rw [h];exact .inl rfl
theorem leftF_cases (r c:Int) (A X b:List Nat):(leftF r c A X b).1.length≤48∧((leftF r c A X b).2=0→fitL r c A X b=true∧((leftF r c A X b).1.length:Int)=r):=by
  unfold leftF
  by_cases h:fitL r c A X b=true
  · obtain ⟨m,n,rfl,rfl,h1,_⟩:=fitL_nat h
    rw [if_pos h]
    split
    · split
      · refine ⟨by simp only [leftL_len,Int.toNat_natCast];exact h1,fun _=>⟨h,by simp only [leftL_len,Int.toNat_natCast]⟩⟩
      · exact ⟨by simp,fun h=>by cases h⟩
    · exact ⟨by simp,fun h=>by cases h⟩
  · rw [if_neg h]
    exact ⟨by simp,fun h=>by cases h⟩
theorem fadd_word (x y:Nat):fadd x y<18446744073709551616:=by
  unfold fadd Ieee.Format.add
  cases (Ieee.double.read x).sum (Ieee.double.read y) with
  | none=>decide
  | some d =>
    show Ieee.double.write d<_
    cases d with
    | number s m e=>exact nearest_lt s m e
    | infinity s=>exact word_bound s _ (by decide)
    | nan s f=>exact word_bound s _ (by
        have:f%Ieee.double.binade<4503599627370496:=Nat.mod_lt _ (by decide)
        have e:Ieee.double.infRung=9218868437227405312:=by decide
        omega)
theorem zip_loop {X y:List Nat} (hx:X.length≤4096) (hy:y.length=X.length):iter (T_r14_Step_b2 X y) FU (0,[])=some (zipV fadd X y):=by
  have:=iter_nat (b:=T_r14_Step_b2 X y) (fun i=>(((i:Nat):Int),(List.range i).map fun i=>fadd (X.getD i 0) (y.getD i 0))) (o:=zipV fadd X y) X.length (by rw [FU_eq];omega) (fun i hi=>by
    unfold T_r14_Step_b2
    simp only [Option.bind_some]
    rw [cond_t (by rw [decide_eq_true_eq];omega),at_getD 0 hi,Option.bind_some,at_getD 0 (by omega),Option.bind_some,app_le (by simp;omega),Option.bind_some,wrU (by omega),map_range_snoc (G:=fun i=>fadd (X.getD i 0) (y.getD i 0))]) (by
    unfold T_r14_Step_b2
    simp only [Option.bind_some]
    rw [cond_f (by rw [decide_eq_false_iff_not];omega)];rfl)
  exact this
theorem step_same (r c:Int) {A X b:List Nat} (q:Int) (l d:List Nat) (kA:A.length≤1048576) (kX:X.length≤1048576) (kb:b.length≤1048576) (wA:∀ p∈A,p<18446744073709551616) (wX:∀ p∈X,p<18446744073709551616) (wb:∀ p∈b,p<18446744073709551616) :
    ∃ x e,T_refine_Step r c A q l d X b=some (x,e)∧T_r14_Step r c A q l d X b=some (x,e)∧x.length≤48∧(e=0→allF x=true∧x.length=X.length∧∀ p∈x,p<18446744073709551616):=by
  unfold T_refine_Step T_r14_Step
  rw [rfit_e,fit14_e,fits14_e]
  simp only [Option.bind_some]
  cases hf:fitL r c A X b with
  | false=>exact ⟨[],4,rfl,rfl,by simp,fun h=>by cases h⟩
  | true =>
    simp only [Bool.not_true,Bool.not_false,cT,cF]
    rcases fits_cases r c A q l d with h | ⟨h,hr,hc⟩
    · rw [h];exact ⟨[],4,rfl,rfl,by simp,fun h=>by cases h⟩
    · rw [h]
      simp only [Option.bind_some,Bool.not_true,cF]
      rw [xleft_t r c kA kX kb,rleft_t r c kA kX kb wA wX wb]
      obtain ⟨m,n,e1,e2,m48,n48,hA,hmn,hX,hb⟩:=fitL_nat hf
      obtain ⟨L1,L2⟩:=leftF_cases r c A X b
      generalize leftF r c A X b=p at *
      obtain ⟨t4,t5⟩:=p
      simp only [Option.bind_some]
      by_cases h5:t5=0
      · obtain ⟨_,L3⟩:=L2 h5
        rw [cond_f (by simpa using h5),cond_f (by simpa using h5)]
        obtain ⟨s1,y,e,s2,s3,s4⟩:=solve_same q l d (b:=t4)
        rw [← s1,s2]
        simp only [Option.bind_some]
        by_cases he:e=0
        · have hy:y.length=X.length:=by
            have:=s4 he
            have L3':((t4.length:Nat):Int)=r:=L3
            omega
          rw [cond_f (by simpa using he),cond_f (by simpa using he),vadd_t]
          have fv:fitV X y=0:=by
            unfold fitV
            rw [if_pos hy.symm,if_neg (by omega)]
          unfold eachV
          rw [fv,if_pos rfl,show List.map nf []=([]:List Nat) from rfl,zip_loop (by omega) hy]
          simp only [Option.bind_some]
          have lz:(zipV fadd X y).length=X.length:=by simp [zipV]
          rw [refin_t (by simp) (by simp [lz];omega),fin14_t (by omega)]
          have e1 : [zipV fadd X y].all allF=allF (zipV fadd X y):=by simp
          rw [e1]
          simp only [Option.bind_some]
          cases hz:allF (zipV fadd X y) with
          | false=>exact ⟨[],6,rfl,rfl,by simp,fun h=>by cases h⟩
          | true => exact ⟨_, 0, rfl, rfl, by omega, fun _ => ⟨hz, lz, fun p hp => by
            unfold zipV at hp
            obtain ⟨i,_,rfl⟩:=List.mem_map.1 hp
            exact fadd_word _ _⟩⟩
        · rw [cond_t (by simpa using he),cond_t (by simpa using he)]
          exact ⟨[],e,rfl,rfl,by simp,fun h=>absurd h he⟩
      · rw [cond_t (by simpa using h5),cond_t (by simpa using h5)]
        exact ⟨[],t5,rfl,rfl,by simp,fun h=>absurd h h5⟩
theorem steps14 {r c q:Int} {A l d X b:List Nat} (kl:l.length≤1048576) (kd:d.length≤1048576) (wA:∀ p∈A,p<18446744073709551616) (wX:∀ p∈X,p<18446744073709551616) (wb:∀ p∈b,p<18446744073709551616):T_w14_RefineSteps r c A q l d X b=some true:=by
  unfold T_w14_RefineSteps
  rw [awake14]
  simp only [Option.bind_some,Bool.not_true,cF,great14]
  by_cases gA:100<A.length
  · rw [decide_eq_true gA];rfl
  · rw [decide_eq_false gA,Bool.not_false,cT]
    by_cases gX:100<X.length
    · rw [decide_eq_true (show ((X.length:Nat):Int)>100 by omega)];rfl
    · rw [decide_eq_false (show ¬ ((X.length:Nat):Int)>100 by omega),Bool.not_false,cT]
      by_cases gb:100<b.length
      · rw [decide_eq_true (show ((b.length:Nat):Int)>100 by omega)];rfl
      · rw [decide_eq_false (show ¬ ((b.length:Nat):Int)>100 by omega),Option.bind_some,cF]
        unfold T_k_LentMatrix T_k_LentFactor
        rw [lentR' (by omega),lentR' (by omega),lentR' (by omega),lentR' (by omega),lentR' (by omega)]
        simp only [Option.bind_some]
        obtain ⟨x,e,s1,s2,s3,s4⟩:=step_same r c q l d (A:=A) (X:=X) (b:=b) (by omega) (by omega) (by omega) wA wX wb
        rw [s1,s2]
        simp only [Option.bind_some]
        rw [keptM' (by omega)]
        simp only [Option.bind_some,cT]
        rw [keptF' kl kd]
        simp only [Option.bind_some,cT]
        rw [keptR' (by omega),keptR' (by omega)]
        simp only [Option.bind_some,cT,beq_self_eq_true]
        rw [sameReals_t (by omega),beq_self_eq_true];rfl
section
variable {N:Nums} {P:Program} (H:AllOk N P)
include H
theorem steps14_f {r c q:Int} {sa sl sd sx sb:Option Addr} {na ma nl ml nd md nx mx nb mb:Nat} {la ll ld lx lb:List Nat} {w:World} (hA:Reals w sa na ma la) (hL:Reals w sl nl ml ll) (hD:Reals w sd nd md ld) (hX:Reals w sx nx mx lx) (hB:Reals w sb nb mb lb)
    (kl:nl≤1048576) (kd:nd≤1048576) (wA:∀ p∈la,p<18446744073709551616) (wX:∀ p∈lx,p<18446744073709551616) (wB:∀ p∈lb,p<18446744073709551616) (hG:tab64 N.g_1 w) :
    CallsX P N.f_w14_RefineSteps #[.agg #[.int .i64 r,.int .i64 c,.slice sa na ma,.int .i64 q,.slice sl nl ml,.slice sd nd md,.slice sx nx mx,.slice sb nb mb]] w fun v w'=>v = .bool true∧∃ M,St w w' M:=by
  have hS:=((((((Ho.start w).arg own_nil hG).arg (own_cons rfl own_nil) (.ofReals hB)).arg (own_cons rfl (own_cons rfl own_nil)) (.ofReals hX)).arg (own_cons rfl (own_cons rfl (own_cons rfl own_nil))) (.ofReals hD)).arg (own_cons rfl (own_cons rfl (own_cons rfl (own_cons rfl own_nil)))) (.ofReals hL)).arg (own_cons rfl (own_cons rfl (own_cons rfl (own_cons rfl (own_cons rfl own_nil))))) (.ofReals hA)
  exact wk_w14_RefineSteps H hS (Ent.rd mp0) (Ent.rd mp1) (Ent.rd mp2) (Ent.rd mp3) (Ent.rd mp4) (Ent.rd mp5) (steps14 (by rw [List.length_map,hL.len];exact kl) (by rw [List.length_map,hD.len];exact kd) (nf_words wA) (nf_words wX) (nf_words wB)) fun w1 h=>⟨rfl,h.some_old⟩
end
end Go.Eng
