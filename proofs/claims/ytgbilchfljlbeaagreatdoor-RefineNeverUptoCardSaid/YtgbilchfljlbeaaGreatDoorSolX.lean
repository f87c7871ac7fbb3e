/-
  The program's Solve and Step on the plain side: they answer. No condition.
-/
import Derived.Test.YtgbilchfljlbeaaGreatDoorUnx
import Derived.Test.YtgbilchfljlbeaaGreatDoorPf2A
set_option linter.all false
set_option maxRecDepth 100000
set_option maxHeartbeats 400000
namespace Go.Eng
open Go
theorem write_word (d:Ieee.Datum):Ieee.double.write d<18446744073709551616:=by
  cases d with
  | number s m e=>exact nearest_lt s m e
  | infinity s=>exact word_bound s _ (by decide)
  | nan s f=>exact word_bound s _ (by
      have:f%Ieee.double.binade<4503599627370496:=Nat.mod_lt _ (by decide)
      have e:Ieee.double.infRung=9218868437227405312:=by decide
      omega)
theorem map_word (o:Option Ieee.Datum):(o.map Ieee.double.write).getD qnan<18446744073709551616:=by
  cases o with
  | none=>decide
  | some d=>exact write_word d
theorem fadd_w (x y:Nat):fadd x y<18446744073709551616:=map_word _
theorem fsub_w (x y:Nat):fsub x y<18446744073709551616:=map_word _
theorem fdiv_w (x y:Nat):fdiv x y<18446744073709551616:=map_word _
theorem subN_w {f g:Nat→Nat} {s:Nat} (h:s<18446744073709551616):∀ j,subN f g s j<18446744073709551616
  | 0=>h
  | _+1=>fsub_w _ _
theorem bk_w {l:List Nat} {Q:Nat→Nat} (n:Nat) (h:∀ i,Q i<18446744073709551616):∀ k,∀ p∈bk l Q n k,p<18446744073709551616
  | 0,p,hp=>by cases hp
  | k + 1, p, hp => by
    unfold bk at hp
    rcases List.mem_cons.1 hp with rfl | hp
    · exact subN_w (h _) _
    · exact bk_w n h k p hp
theorem contains_x {d:List Nat} (hd:d.length≤4096):∃ z,T_slices_Contains___float64_float64 d (nf 0)=some z:=by
  unfold T_slices_Contains___float64_float64 T_slices_Index___float64_float64
  simp only [Option.bind_some]
  have s1:∀ i,i<d.length→feq (d.getD i 0) (nf 0)=false→T_slices_Index___float64_float64_b2 ((d.length:Nat):Int) d (nf 0) (i:Int)=some (.inl ((i+1:Nat):Int)):=fun i hi h=>by
    unfold T_slices_Index___float64_float64_b2
    dsimp only
    rw [cond_t (by simp;omega),at_getD 0 hi,Option.bind_some,Option.bind_some,feq_comm,h,cF,wrU (by omega)]
  rcases first_mark (fun i=>feq (d.getD i 0) (nf 0)) d.length with h | ⟨i,hi,h1,h2⟩
  · have t1:=iter_nat (b:=T_slices_Index___float64_float64_b2 ((d.length:Nat):Int) d (nf 0)) (fun i=>((i:Nat):Int)) (o := .inl ()) d.length (by rw [FU_eq];omega) (fun i hi=>s1 i hi (h i hi)) (by
      unfold T_slices_Index___float64_float64_b2
      dsimp only
      rw [cond_f (by simp)])
    rw [show ((0:Nat):Int)=0 from rfl] at t1
    rw [t1]
    exact ⟨false,rfl⟩
  · have t1:=iter_nat (b:=T_slices_Index___float64_float64_b2 ((d.length:Nat):Int) d (nf 0)) (fun i=>((i:Nat):Int)) (o := .inr (i:Int)) i (by rw [FU_eq];omega) (fun j hj=>s1 j (by omega) (h2 j hj)) (by
      unfold T_slices_Index___float64_float64_b2
      dsimp only
      rw [cond_t (by simp;omega),at_getD 0 hi,Option.bind_some,Option.bind_some,feq_comm,h1,cT])
    rw [show ((0:Nat):Int)=0 from rfl] at t1
    rw [t1]
    exact ⟨_,rfl⟩
theorem solve_x (q:Int) (l d b:List Nat):∃ x e,T_solve_Solve q l d b=some (x,e)∧x.length≤48∧(e=0→x.length=b.length)∧∀ p∈x,p<18446744073709551616:=by
  have none4:∃ x e,(some ([],(4:Int)):Option (List Nat×Int))=some (x,e)∧x.length≤48∧(e=0→x.length=b.length)∧∀ p∈x,p<18446744073709551616:=⟨[],4,rfl,by simp,(fun h=>by cases h),(fun p hp=>by cases hp)⟩
  unfold T_solve_Solve
  rcases right_cases q l d with ⟨hR,n,hq,hn,hl,hd⟩ | hR
  · by_cases hb:b.length=n
    · have hf:T_solve_Forward q l d b=some (fw l b n,0):=by
        unfold T_solve_Forward
        rw [Option.bind_some,fits_yes hR (by omega),Option.bind_some,cond_f (by rfl),clone_t (by omega),Option.bind_some,Option.bind_some,forward_t hn hl hb];rfl
      rw [hf,Option.bind_some]
      dsimp only
      rw [cond_f (by rfl)]
      have lf:(fw l b n).length=n:=fw_len l b n
      obtain ⟨z,hz⟩:=contains_x (d:=d) (by omega)
      unfold T_solve_Back
      rw [Option.bind_some,fits_yes hR (by omega),Option.bind_some,cond_f (by rfl),hz,Option.bind_some,clone_t (by omega)]
      cases z
      · rw [cF,Option.bind_some,Option.bind_some,quo_t hn hd lf,Option.bind_some,Option.bind_some,back_t hn hl (by simp),Option.bind_some]
        refine ⟨_,_,rfl,by rw [bk_len];exact hn,fun _=>by rw [bk_len,hb],bk_w n (fun i=>?_) n⟩
        rw [List.getD_eq_getElem?_getD]
        by_cases hi:i<n
        · simp only [List.getElem?_map,List.getElem?_range hi,Option.map_some,Option.getD_some]
          exact fdiv_w _ _
        · rw [List.getElem?_eq_none (by simp;omega)];decide
      · exact ⟨[],7,rfl,by simp,(fun h=>by cases h),(fun p hp=>by cases hp)⟩
    · have hf:T_solve_Forward q l d b=some ([],4):=by
        unfold T_solve_Forward;rw [Option.bind_some,fits_off hR (by omega)];rfl
      rw [hf];exact none4
  · have hf:T_solve_Forward q l d b=some ([],4):=by
      unfold T_solve_Forward;rw [Option.bind_some,fits_no hR];rfl
    rw [hf];exact none4
theorem step_x (r c:Int) {A b:List Nat} (q:Int) (l d:List Nat) (kA:A.length≤1048576) (kb:b.length≤1048576):StepX r c A q l d b:=by
  intro X kX _
  unfold T_refine_Step
  rw [rfit_e]
  simp only [Option.bind_some]
  cases hf:fitL r c A X b with
  | false=>exact ⟨[],4,rfl,by simp,fun h=>by cases h⟩
  | true =>
    simp only [Bool.not_true,Bool.not_false,cT,cF]
    rcases fits_some r c A q l d with h | h
    · rw [h];exact ⟨[],4,rfl,by simp,fun h=>by cases h⟩
    · rw [h]
      simp only [Option.bind_some,Bool.not_true,cF]
      rw [xleft_t r c kA kX kb]
      obtain ⟨m,n,e1,e2,m48,n48,hA,hmn,hX,hb⟩:=fitL_nat hf
      generalize leftF r c A X b=p at *
      obtain ⟨t4,t5⟩:=p
      simp only [Option.bind_some]
      by_cases h5:t5=0
      · rw [cond_f (by simpa using h5)]
        obtain ⟨y,e,s2,s3,s4,s5⟩:=solve_x q l d t4
        rw [s2]
        simp only [Option.bind_some]
        by_cases he:e=0
        · rw [cond_f (by simpa using he),vadd_t]
          obtain ⟨z,e',hz,lz,wz⟩:∃ z e',eachV fadd X y=(z,e')∧z.length≤48∧∀ p∈z,p<18446744073709551616:=by
            unfold eachV
            split
            · refine ⟨_,_,rfl,by simp [zipV];omega,fun p hp=>?_⟩
              unfold zipV at hp
              obtain ⟨i,_,rfl⟩:=List.mem_map.1 hp
              exact fadd_w _ _
            · exact ⟨_,_,rfl,by simp,(fun p hp=>by cases hp)⟩
          rw [hz]
          simp only [Option.bind_some]
          rw [refin_t (by simp) (by simp;omega),Option.bind_some]
          cases [z].all allF with
          | false=>exact ⟨[],6,rfl,by simp,fun h=>by cases h⟩
          | true=>exact ⟨_,0,rfl,lz,fun _=>wz⟩
        · rw [cond_t (by simpa using he)]
          exact ⟨[],e,rfl,by simp,fun h=>absurd h he⟩
      · rw [cond_t (by simpa using h5)]
        exact ⟨[],t5,rfl,by simp,fun h=>absurd h h5⟩
end Go.Eng
