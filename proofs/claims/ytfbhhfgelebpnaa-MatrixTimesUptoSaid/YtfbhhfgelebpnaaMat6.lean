/-
  What the law's own look at two by two matrices comes to; the law of products. No condition.
-/
import Derived.Test.YtfbhhfgelebpnaaMat5
set_option maxRecDepth 100000
namespace Go.Eng
open Go

/-- What comes of a product, in one way for either case. -/
theorem MatRes.uni {t : Nat} {w w' : World} {v : Value} {ok : Bool} {rows cols : Nat} {g : Nat → Nat → Nat} (h : MatRes t w w' v ok rows cols g) :
    ∃ (r c : Int) (a : Option Addr) (n : Nat) (l : List Nat) (e : Int) (B : List (Nat × Array Value × Nat)), v = .tuple #[.agg #[.int .i64 r, .int .i64 c, .slice a n n], .int .i64 e] ∧ Sl B a n n (l.map (Value.float .f64)) t ∧ St w w' B ∧
      e = (if ok = true then 0 else 4) ∧ r = (if ok = true then (rows : Int) else 0) ∧ c = (if ok = true then (cols : Int) else 0) ∧ l.map nf = (if ok = true then gridL rows cols g else []) := by
  rcases h with ⟨rfl, r, l, M, rfl, hl, hM, hr⟩ | ⟨rfl, rfl, M, hM⟩
  · exact ⟨_, _, _, _, l, _, _, rfl, Sl.full hl.1, hM.only hr, rfl, rfl, rfl, isMat_map hl⟩
  · exact ⟨_, _, _, _, [], _, [], rfl, Sl.nil _, hM.nil, rfl, rfl, rfl, rfl⟩

theorem Reals.lits {w0 w : World} {L : List (Nat × Array Value × Nat)} {r t n : Nat} (l : List Nat) (h : St w0 w L) (he : (r, flts l, t) ∈ L) (hn : l.length = n) : Reals w (some ⟨r, 0, none⟩) n n l := by
  have := Reals.own h he
  rwa [hn] at this

section
variable {N : Nums} {P : Program} (H : AllOk N P)
include H

theorem awake_c (w : World) : CallsX P N.f_girderlaw10_awake #[] w fun v w' => v = .bool true ∧ ∃ M, St w w' M := by
  refine H.girderlaw10_awake w _ ?_
  unfold S_girderlaw10_awake
  have hS := St.refl w
  generalize hw0 : w = w0 at hS ⊢
  clear hw0
  (first | ((with_reducible first | apply ldI hS | apply ldS hS | apply hldS hS | apply hldI hS | apply ldF hS | apply ldP hS | apply ldB hS | apply hldF hS); (case ha => exact rfl); (case he => (repeat (first | exact .head _ | refine .tail _ ?_))); (case hc => exact rfl)) | (guard_target = newM _ _ _ _; refine newM_i hS ?_; clear hS; intro _ w hS) | (guard_target = drM _ _; refine drM_i hS ?_; clear hS; intro w hS) | (guard_target = stM _ _ _ _; (first | refine st0 hS rfl rfl ?_ | refine st1 hS rfl rfl ?_ | refine st2 hS rfl rfl ?_ | refine st3 hS rfl rfl ?_ | refine st4 hS rfl rfl ?_ | refine st5 hS rfl rfl ?_ | refine st6 hS rfl rfl ?_ | refine st7 hS rfl rfl ?_); clear hS; intro w hS) | (guard_target = optM (some _) _; refine optM_mk rfl ?_) | (with_reducible (refine ⟨_, hS.cell ‹_›, ?_⟩)) | (with_reducible (refine ⟨_, _, _, hS.cell ‹_›, ?_⟩)) | (with_reducible (refine ⟨hS.cell ‹_›, ?_⟩)))
  rename_i r1
  refine (of_c H _ _ _ _ _ _).mono ?_
  rintro _ w ⟨rfl, M, h1⟩
  replace hS := (hS.next h1).forget
  clear h1
  refine ⟨_, _, _, _, _, rfl, ?_⟩
  (first | ((with_reducible first | apply ldI hS | apply ldS hS | apply hldS hS | apply hldI hS | apply ldF hS | apply ldP hS | apply ldB hS | apply hldF hS); (case ha => exact rfl); (case he => (repeat (first | exact .head _ | refine .tail _ ?_))); (case hc => exact rfl)) | (guard_target = newM _ _ _ _; refine newM_i hS ?_; clear hS; intro _ w hS) | (guard_target = drM _ _; refine drM_i hS ?_; clear hS; intro w hS) | (guard_target = stM _ _ _ _; (first | refine st0 hS rfl rfl ?_ | refine st1 hS rfl rfl ?_ | refine st2 hS rfl rfl ?_ | refine st3 hS rfl rfl ?_ | refine st4 hS rfl rfl ?_ | refine st5 hS rfl rfl ?_ | refine st6 hS rfl rfl ?_ | refine st7 hS rfl rfl ?_); clear hS; intro w hS) | (guard_target = optM (some _) _; refine optM_mk rfl ?_) | (with_reducible (refine ⟨_, hS.cell ‹_›, ?_⟩)) | (with_reducible (refine ⟨_, _, _, hS.cell ‹_›, ?_⟩)) | (with_reducible (refine ⟨hS.cell ‹_›, ?_⟩)))
  rename_i r2
  refine (of_c H _ _ _ _ _ _).mono ?_
  rintro _ w ⟨rfl, M, h1⟩
  replace hS := (hS.next h1).forget
  clear h1
  refine ⟨_, _, _, _, _, rfl, ?_⟩
  refine (mul_c H (.lits [4607182418800017408, 4611686018427387904, 4613937818241073152, 4616189618054758400] hS (.tail _ (.head _)) rfl) (.lits [4617315517961601024, 4618441417868443648, 4619567317775286272, 4620693217682128896] hS (.head _) rfl)).mono ?_
  intro v w1 hv
  obtain ⟨r, c, a, n, l, e, B, rfl, hB, hBS, rfl, rfl, rfl, hl⟩ := hv.uni
  replace hS := (hS.next hBS).swap
  clear hv hBS
  replace hl : l.map nf = [4626041242239631360, 4626885667169763328, 4631248529308778496, 4632233691727265792] := hl.trans (by decide +kernel)
  have hm : mulOk 2 2 [4607182418800017408, 4611686018427387904, 4613937818241073152, 4616189618054758400].length 2 2 [4617315517961601024, 4618441417868443648, 4619567317775286272, 4620693217682128896].length = true := by decide
  rw [if_pos hm, if_pos hm]
  refine ⟨_, _, _, _, _, _, rfl, ?_⟩
  (repeat (first | ((with_reducible first | apply ldI hS | apply ldS hS | apply hldS hS | apply hldI hS | apply ldF hS | apply ldP hS | apply ldB hS | apply hldF hS); (case ha => exact rfl); (case he => (repeat (first | exact .head _ | refine .tail _ ?_))); (case hc => exact rfl)) | (guard_target = newM _ _ _ _; refine newM_i hS ?_; clear hS; intro _ w hS) | (guard_target = drM _ _; refine drM_i hS ?_; clear hS; intro w hS) | (guard_target = stM _ _ _ _; (first | refine st0 hS rfl rfl ?_ | refine st1 hS rfl rfl ?_ | refine st2 hS rfl rfl ?_ | refine st3 hS rfl rfl ?_ | refine st4 hS rfl rfl ?_ | refine st5 hS rfl rfl ?_ | refine st6 hS rfl rfl ?_ | refine st7 hS rfl rfl ?_); clear hS; intro w hS) | (guard_target = optM (some _) _; refine optM_mk rfl ?_) | (with_reducible (refine ⟨_, hS.cell ‹_›, ?_⟩)) | (with_reducible (refine ⟨_, _, _, hS.cell ‹_›, ?_⟩)) | (with_reducible (refine ⟨hS.cell ‹_›, ?_⟩))))
  refine (of_c H _ _ _ _ _ _).mono ?_
  rintro _ w ⟨rfl, M, h1⟩
  replace hS := (hS.next h1).forget
  clear h1
  refine ⟨_, _, _, _, _, rfl, ?_⟩
  (first | ((with_reducible first | apply ldI hS | apply ldS hS | apply hldS hS | apply hldI hS | apply ldF hS | apply ldP hS | apply ldB hS | apply hldF hS); (case ha => exact rfl); (case he => (repeat (first | exact .head _ | refine .tail _ ?_))); (case hc => exact rfl)) | (guard_target = newM _ _ _ _; refine newM_i hS ?_; clear hS; intro _ w hS) | (guard_target = drM _ _; refine drM_i hS ?_; clear hS; intro w hS) | (guard_target = stM _ _ _ _; (first | refine st0 hS rfl rfl ?_ | refine st1 hS rfl rfl ?_ | refine st2 hS rfl rfl ?_ | refine st3 hS rfl rfl ?_ | refine st4 hS rfl rfl ?_ | refine st5 hS rfl rfl ?_ | refine st6 hS rfl rfl ?_ | refine st7 hS rfl rfl ?_); clear hS; intro w hS) | (guard_target = optM (some _) _; refine optM_mk rfl ?_) | (with_reducible (refine ⟨_, hS.cell ‹_›, ?_⟩)) | (with_reducible (refine ⟨_, _, _, hS.cell ‹_›, ?_⟩)) | (with_reducible (refine ⟨hS.cell ‹_›, ?_⟩)))
  refine (apply_c H (.lits [4607182418800017408, 4611686018427387904, 4613937818241073152, 4616189618054758400] hS (.tail _ (.head _)) rfl) (.lits [4617315517961601024, 4618441417868443648] hS (.head _) rfl)).mono ?_
  intro v w hv
  obtain ⟨a2, n2, c2, l2, e2, B2, rfl, hB2, hBS, rfl, hl2⟩ := hv
  replace hS := (hS.next hBS).swap
  clear hBS
  replace hl2 : l2.map nf = [4625478292286210048, 4630685579355357184] := hl2.trans (by decide +kernel)
  have hm2 : applyOk 2 2 [4607182418800017408, 4611686018427387904, 4613937818241073152, 4616189618054758400].length [4617315517961601024, 4618441417868443648].length = true := by decide
  rw [if_pos hm2]
  refine ⟨_, _, _, _, rfl, ?_⟩
  (repeat (first | ((with_reducible first | apply ldI hS | apply ldS hS | apply hldS hS | apply hldI hS | apply ldF hS | apply ldP hS | apply ldB hS | apply hldF hS); (case ha => exact rfl); (case he => (repeat (first | exact .head _ | refine .tail _ ?_))); (case hc => exact rfl)) | (guard_target = newM _ _ _ _; refine newM_i hS ?_; clear hS; intro _ w hS) | (guard_target = drM _ _; refine drM_i hS ?_; clear hS; intro w hS) | (guard_target = stM _ _ _ _; (first | refine st0 hS rfl rfl ?_ | refine st1 hS rfl rfl ?_ | refine st2 hS rfl rfl ?_ | refine st3 hS rfl rfl ?_ | refine st4 hS rfl rfl ?_ | refine st5 hS rfl rfl ?_ | refine st6 hS rfl rfl ?_ | refine st7 hS rfl rfl ?_); clear hS; intro w hS) | (guard_target = optM (some _) _; refine optM_mk rfl ?_) | (with_reducible (refine ⟨_, hS.cell ‹_›, ?_⟩)) | (with_reducible (refine ⟨_, _, _, hS.cell ‹_›, ?_⟩)) | (with_reducible (refine ⟨hS.cell ‹_›, ?_⟩))))
  refine (of_c H _ _ _ _ _ _).mono ?_
  rintro _ w2 ⟨rfl, M, h1⟩
  replace hS := (hS.next h1).forget
  clear h1
  refine ⟨_, _, _, _, _, rfl, ?_⟩
  (repeat (first | ((with_reducible first | apply ldI hS | apply ldS hS | apply hldS hS | apply hldI hS | apply ldF hS | apply ldP hS | apply ldB hS | apply hldF hS); (case ha => exact rfl); (case he => (repeat (first | exact .head _ | refine .tail _ ?_))); (case hc => exact rfl)) | (guard_target = newM _ _ _ _; refine newM_i hS ?_; clear hS; intro _ w hS) | (guard_target = drM _ _; refine drM_i hS ?_; clear hS; intro w hS) | (guard_target = stM _ _ _ _; (first | refine st0 hS rfl rfl ?_ | refine st1 hS rfl rfl ?_ | refine st2 hS rfl rfl ?_ | refine st3 hS rfl rfl ?_ | refine st4 hS rfl rfl ?_ | refine st5 hS rfl rfl ?_ | refine st6 hS rfl rfl ?_ | refine st7 hS rfl rfl ?_); clear hS; intro w hS) | (guard_target = optM (some _) _; refine optM_mk rfl ?_) | (with_reducible (refine ⟨_, hS.cell ‹_›, ?_⟩)) | (with_reducible (refine ⟨_, _, _, hS.cell ‹_›, ?_⟩)) | (with_reducible (refine ⟨hS.cell ‹_›, ?_⟩))))
  have hR := Reals.slm hS (by intro e he; simp [he]) hB
  have hn : n = l.length := by simpa using hB.1
  have hll : l.length = 4 := by have := congrArg List.length hl; simpa using this
  refine (is_c H hR (.lits [4626041242239631360, 4626885667169763328, 4631248529308778496, 4632233691727265792] hS (.head _) rfl) (by omega)).mono ?_
  rintro _ w3 ⟨rfl, M, h1⟩
  replace hS := (hS.next h1).forget
  clear h1 hR
  refine ⟨_, rfl, cond_i (fun _ => ?_) (fun h => ?_)⟩
  case refine_2 => 
    rw [hl] at h
    exact absurd h (by decide +kernel)
  refine cond_i (fun _ => ?_) (fun h => absurd h (by decide))
  (repeat (first | ((with_reducible first | apply ldI hS | apply ldS hS | apply hldS hS | apply hldI hS | apply ldF hS | apply ldP hS | apply ldB hS | apply hldF hS); (case ha => exact rfl); (case he => (repeat (first | exact .head _ | refine .tail _ ?_))); (case hc => exact rfl)) | (guard_target = newM _ _ _ _; refine newM_i hS ?_; clear hS; intro _ w hS) | (guard_target = drM _ _; refine drM_i hS ?_; clear hS; intro w hS) | (guard_target = stM _ _ _ _; (first | refine st0 hS rfl rfl ?_ | refine st1 hS rfl rfl ?_ | refine st2 hS rfl rfl ?_ | refine st3 hS rfl rfl ?_ | refine st4 hS rfl rfl ?_ | refine st5 hS rfl rfl ?_ | refine st6 hS rfl rfl ?_ | refine st7 hS rfl rfl ?_); clear hS; intro w hS) | (guard_target = optM (some _) _; refine optM_mk rfl ?_) | (with_reducible (refine ⟨_, hS.cell ‹_›, ?_⟩)) | (with_reducible (refine ⟨_, _, _, hS.cell ‹_›, ?_⟩)) | (with_reducible (refine ⟨hS.cell ‹_›, ?_⟩))))
  have hR := Reals.slm hS (by intro e he; simp [he]) hB2
  have hn2 : n2 = l2.length := by simpa using hB2.1
  have hll2 : l2.length = 2 := by simpa using congrArg List.length hl2
  refine (sameReals_c H hR (.lits [4625478292286210048, 4630685579355357184] hS (.head _) rfl) (by omega)).mono ?_
  rintro _ w4 ⟨rfl, h1⟩
  replace hS := (hS.next h1)
  clear h1 hR
  refine ⟨_, rfl, drM_i hS fun w hS => ⟨?_, _, hS⟩⟩
  rw [hl2]
  exact congrArg _ (by decide +kernel)

end
end Go.Eng
