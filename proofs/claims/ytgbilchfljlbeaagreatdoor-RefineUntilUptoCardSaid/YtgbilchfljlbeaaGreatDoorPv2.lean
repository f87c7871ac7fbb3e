
/-
  Sums of lists of floats on the plain side. No condition.
-/
import Derived.Test.YtgbilchfljlbeaaGreatDoorPmA
import Derived.Test.YtgbilchfljlbeaaGreatDoorOpp
set_option linter.all false
set_option maxRecDepth 100000
set_option maxHeartbeats 4000000
namespace Go.Eng
open Go
def Go6 (a b:List Nat):Int:=if a.length=b.length then (if 4096<a.length then 3 else 0) else 4
theorem Hm8 (a b:List Nat):Bb5 a b=some (Go6 a b):=by
  unfold Bb5 Go6
  simp only [Option.bind_some]
  refine Ba0 (fun h=>?_) (fun h=>?_)
  · have : ¬ a.length=b.length:=by simp at h;omega
    rw [if_neg this]
  · have:a.length=b.length:=by simp at h;omega
    rw [if_pos this]
    refine Ba0 (fun h=>?_) (fun h=>?_)
    · rw [if_pos (by simp at h;omega)]
    · rw [if_neg (by simp at h;omega)]
def Fq2 (g:Nat→Nat→Nat) (a b:List Nat):List Nat:=(List.range a.length).map fun i=>g (a.getD i 0) (b.getD i 0)
def Fl9 (g:Nat→Nat→Nat) (a b:List Nat):List Nat×Int:=if Go6 a b=0 then (Fq2 g a b,0) else ([],Go6 a b)
theorem Gh6 {a b:List Nat} (h:Go6 a b=0):a.length=b.length∧a.length≤4096:=by
  unfold Go6 at h
  split at h
  · split at h
    · cases h
    · exact ⟨by assumption,by omega⟩
  · cases h
theorem Hj5 {f:Nat→Nat→Option Nat} {g:Nat→Nat→Nat} (hf:∀ x y,f x y=some (g x y)) (a b:List Nat):Ay4 a b f=some (Fl9 g a b):=by
  unfold Ay4 Fl9
  simp only [Hm8,Option.bind_some]
  by_cases h:Go6 a b=0
  · obtain ⟨h1,h2⟩:=Gh6 h
    rw [if_pos h,Aa8 (by simp [h]),Bm3 (by omega),Option.bind_some]
    have:=Ab9 (b:=Aj8 ((a.length:Nat):Int) a b f) (fun i=>(((i:Nat):Int),Bq1 a.length (nf 0) (fun i=>g (a.getD i 0) (b.getD i 0)) i)) (o:=Fq2 g a b) a.length (by rw [Ae6];omega) (fun i hi=>by
      unfold Aj8
      dsimp only
      rw [Aa6 (by simp;omega),Ab8 0 hi,Option.bind_some,Ab8 0 (by omega),Option.bind_some,hf,Option.bind_some,Ab8 0 (by rw [Fo4 (by omega)];exact hi)]
      simp only [Option.bind_some,Int.toNat_natCast]
      rw [Fr4 hi,wrU (by omega)]) (by
      unfold Aj8
      dsimp only
      rw [Aa8 (by simp),Ey4];rfl)
    have this:Ag0 (Aj8 ((a.length:Nat):Int) a b f) FU (0,Bq1 a.length (nf 0) (fun i=>g (a.getD i 0) (b.getD i 0)) 0)=some (Fq2 g a b):=this
    rw [Ey1] at this
    rw [this];rfl
  · rw [if_neg h,Aa6 (by simpa using h)];rfl
theorem Gq4 (a b:List Nat):Bc7 a b=some (Fl9 As2 a b):=by
  unfold Bc7
  rw [Hj5 (f:=fun v0 v1=>Bb4 v0 v1) (g:=As2) (fun x y=>rfl) a b];rfl
end Go.Eng
