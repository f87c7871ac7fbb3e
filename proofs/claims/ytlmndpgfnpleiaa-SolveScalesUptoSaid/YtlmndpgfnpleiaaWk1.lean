/-
  Each function comes to what its function of plain Lean says, printed by a program of the session; with contracts written by hand at the head. No condition.
-/
import Derived.Test.YtlmndpgfnpleiaaTp
import Derived.Test.YtlmndpgfnpleiaaSh
set_option linter.unusedSimpArgs false
set_option linter.unnecessarySimpa false
set_option linter.unusedSectionVars false
set_option linter.unusedVariables false
set_option maxRecDepth 100000
set_option maxHeartbeats 4000000
namespace Go.Eng
open Go

section
variable {N : Nums} {P : Program} (H : AllOk N P)
include H

theorem mark_c (i : Nat) (hi : i < 1000) (w : World) : CallsX P N.f_girderkit_mark #[.int .i64 1, .int .i64 i] w fun v w' => v = .int .i64 (8000024 + (i : Int)) ∧ St w w' [] := by
  refine H.girderkit_mark 1 i w _ ?_
  unfold S_girderkit_mark
  refine ⟨?_, St.refl _⟩
  congr 1
  have h1 : IntKind.i64.wrap (1 + 7) = 8 := by decide
  have h2 : IntKind.i64.wrap (1000003 * 8) = 8000024 := by decide
  rw [h1, h2, wrI (by omega) (by omega)]

theorem lentReals_c {w : World} {a : Option Addr} {n c : Nat} {l : List Nat} (hA : Reals w a n c l) (hn : n ≤ 4294967000) :
    CallsX P N.f_girderkit_LentReals #[.slice a n c] w fun v w' => ∃ (r : Nat) (M : List (Nat × Array Value × Nat)), v = .slice (some ⟨r, 0, none⟩) n (n + 12) ∧ St w w' M ∧ (r, flts (l ++ marks), N.t_float64) ∈ M := by
  refine H.girderkit_LentReals a n c w _ ?_
  unfold S_girderkit_LentReals
  have hS := St.refl w
  have hw : IntKind.i64.wrap ((n : Int) + 12) = ((n + 12 : Nat) : Int) := by rw [← wrN (n := n + 12) (by omega)]; rfl
  rw [hw, Int.toNat_natCast]
  refine mkS_i (l := 0) hS rfl rfl (by omega) (by omega) (by omega) fun r w1 hS => ?_
  have hln := hA.len
  refine app_in (L := []) (l := []) (z := List.replicate (n + 12) (.float .f64 0)) (k := l.map (Value.float .f64)) hS rfl (by simp) (by simpa using hln) (by simp) (by intro v hv; simp at hv; obtain ⟨x, _, rfl⟩ := hv; rfl) (hA.keep hS).row fun w2 hS => ?_
  refine cutM_i (fun s w' => s.1 = (some ⟨r, 0, none⟩, n + 12, n + 12) ∧ St w w' [(r, flts (l ++ marks), N.t_float64)]) (fun J hJ => ?_) ?_
  · refine loopM_i (fun s w' => ∃ k : Nat, k ≤ 12 ∧ s.2.1 = (k : Int) ∧ s.1 = (some ⟨r, 0, none⟩, n + k, n + 12) ∧ St w w' [(r, flts (l ++ (List.range k).map markF ++ List.replicate (12 - k) 0), N.t_float64)]) (fun s => 12 - s.2.1.toNat) ⟨0, by omega, rfl, by simp, ?_⟩ ?_
    · have e : flts (l ++ (List.range 0).map markF ++ List.replicate (12 - 0) 0) = ([] ++ l.map (Value.float .f64) ++ (List.replicate (n + 12) (Value.float .f64 0)).drop n).toArray := by
        simp [flts]
      rw [e]; exact hS
    · rintro ⟨s, i, u⟩ w3 X ⟨k, hk, hi, hs, hS⟩ hX
      dsimp only at hi hs
      subst hi; subst hs
      refine cond_i (fun hb => ?_) (fun hb => ?_)
      · have hlt : k < 12 := by simp at hb; omega
        refine (mark_c H k (by omega) w3).mono ?_
        rintro _ w4 ⟨rfl, h4⟩
        replace hS := (hS.next h4)
        refine ⟨_, rfl, ?_⟩
        refine newM_i hS fun q w5 hS => ?_
        have hq : rowOf w5 (some ⟨q, 0, none⟩) [Value.float .f64 (markF k)] := by
          intro i hi
          simp at hi; subst hi
          rw [add_at, hS.get (List.mem_cons_self ..)]; rfl
        replace hS := hS.forget (M := [_])
        dsimp only
        refine app_in (L := []) (l := (l ++ (List.range k).map markF).map (Value.float .f64)) (z := List.replicate (12 - k) (.float .f64 0)) (k := [.float .f64 (markF k)]) (by
          have e : flts (l ++ (List.range k).map markF ++ List.replicate (12 - k) 0) = ((l ++ (List.range k).map markF).map (Value.float .f64) ++ List.replicate (12 - k) (Value.float .f64 0)).toArray := by simp [flts]
          rw [← e]; exact hS) (by simp [hln]) (by simp [hln]; omega) rfl (by simp; omega) (by intro v hv; simp at hv; subst hv; rfl) hq fun w6 hS => ?_
        have hw : IntKind.i64.wrap ((k : Int) + 1) = ((k + 1 : Nat) : Int) := by rw [← wrN (n := k + 1) (by omega)]; rfl
        refine hX _ _ ⟨k + 1, by omega, hw, rfl, ?_⟩ (by dsimp only; rw [hw]; omega)
        have e : flts (l ++ (List.range (k + 1)).map markF ++ List.replicate (12 - (k + 1)) 0) = ((l ++ (List.range k).map markF).map (Value.float .f64) ++ [Value.float .f64 (markF k)] ++ (List.replicate (12 - k) (Value.float .f64 0)).drop 1).toArray := by
          simp [flts, List.range_succ, Nat.sub_sub]
        rw [e]; exact hS
      · have hk : k = 12 := by simp at hb; omega
        subst hk
        refine hJ _ _ ⟨rfl, ?_⟩
        simpa [marks] using hS
  · rintro ⟨s, u⟩ w3 ⟨hs, hS⟩
    dsimp only at hs
    subst hs
    refine ⟨by omega, by dsimp only; omega, ?_⟩
    rw [slBase0]
    exact ⟨r, _, rfl, hS, List.mem_singleton.2 rfl⟩

theorem bits_c (x : Nat) (w : World) : CallsX P N.f_math_Float64bits #[.float .f64 x] w fun v w' => v = .int .u64 x ∧ St w w' [] :=
  H.math_Float64bits x w _ ⟨rfl, St.refl _⟩

theorem sameFloat_c (x y : Nat) (w : World) : CallsX P N.f_girderkit_SameFloat #[.float .f64 x, .float .f64 y] w fun v w' => v = .bool (nf x == nf y) ∧ St w w' [] := by
  refine H.girderkit_SameFloat x y w _ ?_
  unfold S_girderkit_SameFloat
  refine (bits_c H x w).mono ?_
  rintro _ w1 ⟨rfl, h1⟩
  refine ⟨_, rfl, ?_⟩
  refine (bits_c H y w1).mono ?_
  rintro _ w2 ⟨rfl, h2⟩
  refine ⟨_, rfl, ?_⟩
  have hS := h1.next h2
  have hxy : (((x : Nat) : Int) == ((y : Nat) : Int)) = (x == y) := by rw [Bool.eq_iff_iff]; simp; omega
  rw [same_bits, hxy, feq_self, feq_self]
  cases x == y <;> cases isNaN x <;> exact ⟨by simp, hS⟩

theorem keptReals_c {w : World} {a b : Option Addr} {n d : Nat} {l : List Nat} (hA : Reals w a (n + 12) (n + 12) (l ++ marks)) (hB : Reals w b n d l) (hn : n ≤ 4294967000) :
    CallsX P N.f_girderkit_KeptReals #[.slice a n (n + 12), .slice b n d] w fun v w' => v = .bool true ∧ St w w' [] := by
  refine H.girderkit_KeptReals a n (n + 12) b n d w _ ?_
  unfold S_girderkit_KeptReals
  refine cond_i (fun h => by simp at h) (fun _ => ?_)
  have hw : IntKind.i64.wrap ((n : Int) + 12) = ((n + 12 : Nat) : Int) := by rw [← wrN (n := n + 12) (by omega)]; rfl
  rw [hw, Int.toNat_natCast]
  have hlen := hB.len
  refine ⟨by omega, by omega, ?_⟩
  refine cutM_i (fun s w' => St w w' []) (fun J hJ => ?_) (fun s w' h => ⟨rfl, h⟩)
  refine loopM_i (fun s w' => ∃ k : Nat, k ≤ n + 12 ∧ s.1 = (k : Int) ∧ St w w' []) (fun s => n + 12 - s.1.toNat) ⟨0, by omega, rfl, St.refl w⟩ ?_
  rintro ⟨i, u⟩ w1 X ⟨k, hk, hi, hS⟩ hX
  dsimp only at hi
  subst hi
  have step : ∀ w', St w w' [] → k < n + 12 → X (IntKind.i64.wrap ((k : Int) + 1), u) w' := fun w' h' hlt => by
    have hw : IntKind.i64.wrap ((k : Int) + 1) = ((k + 1 : Nat) : Int) := by rw [← wrN (n := k + 1) (by omega)]; rfl
    exact hX _ _ ⟨k + 1, by omega, hw, h'⟩ (by dsimp only; rw [hw]; omega)
  rw [slBase0]
  refine cond_i (fun hb => ?_) (fun _ => hJ _ _ hS)
  have hlt : k < n + 12 := by simp at hb; omega
  refine cond_i (fun hb => ?_) (fun hb => ?_)
  · have hkn : k < n := by simp at hb; omega
    refine ⟨by omega, by dsimp only; omega, (hA.keep hS).read (i := k) (by omega) fun x hx => ⟨_, by rw [Int.toNat_natCast, Nat.mul_one]; exact hx, ?_⟩⟩
    refine ⟨by omega, by dsimp only; omega, (hB.keep hS).read (i := k) (by omega) fun y hy => ⟨_, by rw [Int.toNat_natCast, Nat.mul_one]; exact hy, ?_⟩⟩
    refine drM_i hS fun w2 hS => ?_
    refine (sameFloat_c H _ _ _).mono ?_
    rintro _ w3 ⟨rfl, h3⟩
    replace hS := hS.next h3
    refine ⟨_, rfl, ?_⟩
    have e : (l ++ marks).getD k 0 = l.getD k 0 := by
      simp [List.getElem?_append_left (show k < l.length by omega)]
    refine cond_i (fun _ => ?_) (fun h => by rw [e] at h; simp at h)
    refine cond_i (fun h => by simp at h; omega) (fun _ => ?_)
    exact drM_i hS fun w4 hS => drM_i hS fun w5 hS => step _ hS hlt
  · have hkn : n ≤ k := by simp at hb; omega
    refine drM_i hS fun w2 hS => ?_
    refine cond_i (fun h => ?_) (fun h => by simp at h; omega)
    obtain ⟨x, rfl, hx⟩ := hA.at_ k (by simp [marks]; omega)
    refine ⟨by omega, by dsimp only; omega, optM_mk rfl ⟨_, by rw [Int.toNat_natCast, Nat.mul_one]; exact hS.cell hx, ?_⟩⟩
    refine drM_i hS fun w3 hS => ?_
    have hs : IntKind.i64.wrap ((k : Int) - (n : Int)) = ((k - n : Nat) : Int) := by rw [wrI (by omega) (by omega)]; omega
    dsimp only
    rw [hs]
    refine (mark_c H (k - n) (by omega) w3).mono ?_
    rintro _ w4 ⟨rfl, h4⟩
    replace hS := hS.next h4
    refine ⟨_, rfl, by rw [Int.toNat_natCast, Nat.mul_one]; exact hS.cell hx, ?_⟩
    refine drM_i hS fun w5 hS => ?_
    have e : (l ++ marks).getD k 0 = markF (k - n) := by
      simp [List.getElem?_append_right (show l.length ≤ k by omega), hlen, marks, show k - n < 12 by omega]
    refine cond_i (fun h => ?_) (fun _ => step _ hS hlt)
    rw [e] at h
    have := marks_same (k - n) (by omega)
    unfold markF at h this
    rw [this] at h
    simp at h

theorem copysign_c (x y : Nat) (w : World) : CallsX P N.f_math_Copysign #[.float .f64 x, .float .f64 y] w fun v w' => v = .float .f64 ((if negF y then 9223372036854775808 else 0) + magF x) ∧ St w w' [] := by
  refine H.math_Copysign x y w _ ?_
  unfold S_math_Copysign
  refine (bits_c H x w).mono ?_
  rintro _ w1 ⟨rfl, h1⟩
  refine ⟨_, rfl, ?_⟩
  refine (bits_c H y w1).mono ?_
  rintro _ w2 ⟨rfl, h2⟩
  refine ⟨_, rfl, ?_⟩
  refine H.math_Float64frombits _ w2 _ ?_
  rw [copy_bits]
  exact ⟨_, rfl, rfl, h1.next h2⟩

end

theorem wk_girderkit_mark {N : Nums} {P : Program} (H : AllOk N P) {w0 w : World} {L : List It} {q0 : Int} {q1 : Int} {u0 : Int} (hS : Ho w0 w L)  (hx : T_girderkit_mark q0 q1 = some u0) {K : Value → World → Prop} (hK : ∀  (w1 : World), Ho w0 w1 (L) → K (.int .i64 u0) w1) : CallsX P N.f_girderkit_mark #[.int .i64 q0, .int .i64 q1] w K := by
  refine H.girderkit_mark q0 q1 w _ ?_
  unfold S_girderkit_mark
  unfold T_girderkit_mark at hx
  have h := hx
  clear hx
  try dsimp only
  have h := some_inj h
  cases h
  exact hK _ hS

theorem wk_girderkit_LentReals {N : Nums} {P : Program} (H : AllOk N P) {w0 w : World} {L : List It} {q0 : Option Addr} {q0l q0c : Nat} {ws0 : List Nat} {u0 : List Nat} (hS : Ho w0 w L) (hq0 : Ent L (rdA (List.map (Value.float .f64) ws0) q0 q0l q0c)) (hx : T_girderkit_LentReals (List.map nf ws0) = some u0) {K : Value → World → Prop} (hK : ∀ (r0 : Nat) (w1 : World), (List.map nf ws0) = u0 → Ho w0 w1 ((sl (some ⟨r0, 0, none⟩) (q0l + 12) (q0l + 12) (List.map (Value.float .f64) (ws0 ++ marks)) N.t_float64) :: L) → K (.slice (some ⟨r0, 0, none⟩) q0l (q0l + 12)) w1) : CallsX P N.f_girderkit_LentReals #[.slice q0 q0l q0c] w K := by
  unfold T_girderkit_LentReals at hx
  have hd : (List.map nf ws0).length ≤ 4294967000 := by
    rcases Nat.lt_or_ge 4294967000 (List.map nf ws0).length with h | h
    · rw [decide_eq_false (by omega)] at hx; cases hx
    · exact h
  rw [decide_eq_true hd] at hx
  have hx := some_inj hx
  have r0 := (hq0.now (fun _ h => h) hS).reals
  refine (lentReals_c H r0 (by have := r0.len; simp at hd; omega)).mono ?_
  rintro _ w1 ⟨r, M, rfl, h1, hm⟩
  exact hK r w1 hx (Ho.gain hS h1 hm (by have := r0.len; simp [marks]; omega))

theorem wk_girderkit_LentFactor {N : Nums} {P : Program} (H : AllOk N P) {w0 w : World} {L : List It} {q0_0 : Int} {q0_1 : Option Addr} {q0_1l q0_1c : Nat} {ws0_1 : List Nat} {q0_2 : Option Addr} {q0_2l q0_2c : Nat} {ws0_2 : List Nat} {u0 : Int} {u1 : List Nat} {u2 : List Nat} (hS : Ho w0 w L) (hq0_1 : Ent L (rdA (List.map (Value.float .f64) ws0_1) q0_1 q0_1l q0_1c)) (hq0_2 : Ent L (rdA (List.map (Value.float .f64) ws0_2) q0_2 q0_2l q0_2c)) (hx : T_girderkit_LentFactor q0_0 (List.map nf ws0_1) (List.map nf ws0_2) = some (u0, u1, u2)) {K : Value → World → Prop} (hK : ∀ (r1 : Nat) (r2 : Nat) (w1 : World), (List.map nf ws0_1) = u1 → (List.map nf ws0_2) = u2 → Ho w0 w1 ((sl (some ⟨r1, 0, none⟩) (q0_1l + 12) (q0_1l + 12) (List.map (Value.float .f64) (ws0_1 ++ marks)) N.t_float64) :: (sl (some ⟨r2, 0, none⟩) (q0_2l + 12) (q0_2l + 12) (List.map (Value.float .f64) (ws0_2 ++ marks)) N.t_float64) :: L) → K (.agg #[.int .i64 u0, .slice (some ⟨r1, 0, none⟩) q0_1l (q0_1l + 12), .slice (some ⟨r2, 0, none⟩) q0_2l (q0_2l + 12)]) w1) : CallsX P N.f_girderkit_LentFactor #[.agg #[.int .i64 q0_0, .slice q0_1 q0_1l q0_1c, .slice q0_2 q0_2l q0_2c]] w K := by
  refine H.girderkit_LentFactor q0_0 q0_1 q0_1l q0_1c q0_2 q0_2l q0_2c w _ ?_
  unfold S_girderkit_LentFactor
  unfold T_girderkit_LentFactor at hx
  have h := hx
  clear hx
  try dsimp only
  refine newM_s hS ?_; clear hS; intro r1 w hS
  refine newM_s hS ?_; clear hS; intro r2 w hS
  refine ⟨_, _, _, (hS.cel mp1 rfl), ?_⟩
  replace h := bnd h
  obtain ⟨t1, ht1, h⟩ := h
  refine wk_girderkit_LentReals H hS (hq0_1.mono tl2) ht1 ?_; clear hS ht1; rintro r3 w rfl hS
  refine ⟨_, _, _, rfl, ?_⟩
  replace hS := ro2 hS
  refine stc_s hS rfl rfl ?_; clear hS; intro w hS
  refine ⟨_, _, _, (hS.cel mp0 rfl), ?_⟩
  replace h := bnd h
  obtain ⟨t2, ht2, h⟩ := h
  refine wk_girderkit_LentReals H hS (hq0_2.mono tl3) ht2 ?_; clear hS ht2; rintro r4 w rfl hS
  refine ⟨_, _, _, rfl, ?_⟩
  replace hS := ro1 hS
  refine stc_s hS rfl rfl ?_; clear hS; intro w hS
  refine ⟨_, (hS.cel mp0 rfl), ?_⟩
  refine ⟨_, _, _, (hS.cel mp0 rfl), ?_⟩
  refine ⟨_, _, _, (hS.cel mp0 rfl), ?_⟩
  replace hS := ro3 hS
  refine stc_s hS rfl rfl ?_; clear hS; intro w hS
  refine stc_s hS rfl rfl ?_; clear hS; intro w hS
  refine stc_s hS rfl rfl ?_; clear hS; intro w hS
  refine ⟨_, (hS.cel mp0 rfl), ?_⟩
  refine ⟨_, _, _, (hS.cel mp0 rfl), ?_⟩
  refine ⟨_, _, _, (hS.cel mp0 rfl), ?_⟩
  have h := some_inj h
  cases h
  exact hK _ _ _ rfl rfl (hS.pick (A := [_, _, _, _]) [3, 2] rfl)

theorem wk_lower_Right {N : Nums} {P : Program} (H : AllOk N P) {w0 w : World} {L : List It} {q0_0 : Int} {q0_1 : Option Addr} {q0_1l q0_1c : Nat} {ws0_1 : List Nat} {q0_2 : Option Addr} {q0_2l q0_2c : Nat} {ws0_2 : List Nat} {u0 : Bool} (hS : Ho w0 w L) (hq0_1 : Ent L (rdA (List.map (Value.float .f64) ws0_1) q0_1 q0_1l q0_1c)) (hq0_2 : Ent L (rdA (List.map (Value.float .f64) ws0_2) q0_2 q0_2l q0_2c)) (hx : T_lower_Right q0_0 (List.map nf ws0_1) (List.map nf ws0_2) = some u0) {K : Value → World → Prop} (hK : ∀  (w1 : World), Ho w0 w1 (L) → K (.bool u0) w1) : CallsX P N.f_lower_Right #[.agg #[.int .i64 q0_0, .slice q0_1 q0_1l q0_1c, .slice q0_2 q0_2l q0_2c]] w K := by
  refine H.lower_Right q0_0 q0_1 q0_1l q0_1c q0_2 q0_2l q0_2c w _ ?_
  unfold S_lower_Right
  unfold T_lower_Right at hx
  have h := hx
  clear hx
  try dsimp only
  refine newM_s hS ?_; clear hS; intro r1 w hS
  refine ⟨_, (hS.cel mp0 rfl), ?_⟩
  refine cond_s h ?_ ?_ <;> clear h <;> intro hc h
  · refine ⟨_, (hS.cel mp0 rfl), ?_⟩
    refine cond_s h ?_ ?_ <;> clear h <;> intro hc h
    · refine ⟨_, _, _, (hS.cel mp0 rfl), ?_⟩
      replace h := bnd h
      obtain ⟨t1, ht1, h⟩ := h
      obtain rfl := lenF ht1 ((hq0_1.mono tl1).now (fun _ h => h) hS)
      clear ht1
      refine ⟨_, (hS.cel mp0 rfl), ?_⟩
      refine ⟨_, (hS.cel mp0 rfl), ?_⟩
      refine ⟨by decide, ?_⟩
      refine cond_s h ?_ ?_ <;> clear h <;> intro hc h
      · refine ⟨_, _, _, (hS.cel mp0 rfl), ?_⟩
        replace h := bnd h
        obtain ⟨t2, ht2, h⟩ := h
        obtain rfl := lenF ht2 ((hq0_2.mono tl1).now (fun _ h => h) hS)
        clear ht2
        refine ⟨_, (hS.cel mp0 rfl), ?_⟩
        have h := some_inj h
        cases h
        exact hK _ (hS.pick (A := [_]) [] rfl)
      · have h := some_inj h
        cases h
        exact hK _ (hS.pick (A := [_]) [] rfl)
    · have h := some_inj h
      cases h
      exact hK _ (hS.pick (A := [_]) [] rfl)
  · have h := some_inj h
    cases h
    exact hK _ (hS.pick (A := [_]) [] rfl)

theorem wk_solve_fits {N : Nums} {P : Program} (H : AllOk N P) {w0 w : World} {L : List It} {q0_0 : Int} {q0_1 : Option Addr} {q0_1l q0_1c : Nat} {ws0_1 : List Nat} {q0_2 : Option Addr} {q0_2l q0_2c : Nat} {ws0_2 : List Nat} {q1 : Int} {u0 : Int} (hS : Ho w0 w L) (hq0_1 : Ent L (rdA (List.map (Value.float .f64) ws0_1) q0_1 q0_1l q0_1c)) (hq0_2 : Ent L (rdA (List.map (Value.float .f64) ws0_2) q0_2 q0_2l q0_2c)) (hx : T_solve_fits q0_0 (List.map nf ws0_1) (List.map nf ws0_2) q1 = some u0) {K : Value → World → Prop} (hK : ∀  (w1 : World), Ho w0 w1 (L) → K (.int .i64 u0) w1) : CallsX P N.f_solve_fits #[.agg #[.int .i64 q0_0, .slice q0_1 q0_1l q0_1c, .slice q0_2 q0_2l q0_2c], .int .i64 q1] w K := by
  refine H.solve_fits q0_0 q0_1 q0_1l q0_1c q0_2 q0_2l q0_2c q1 w _ ?_
  unfold S_solve_fits
  unfold T_solve_fits at hx
  have h := hx
  clear hx
  try dsimp only
  refine newM_s hS ?_; clear hS; intro r1 w hS
  refine ⟨_, (hS.cel mp0 rfl), ?_⟩
  refine ⟨_, _, _, (hS.cel mp0 rfl), ?_⟩
  refine ⟨_, _, _, (hS.cel mp0 rfl), ?_⟩
  replace h := bnd h
  obtain ⟨t1, ht1, h⟩ := h
  refine wk_lower_Right H hS (hq0_1.mono tl1) (hq0_2.mono tl1) ht1 ?_; clear hS ht1; rintro w hS
  refine ⟨_, rfl, ?_⟩
  refine cond_s h ?_ ?_ <;> clear h <;> intro hc h
  · refine ⟨_, (hS.cel mp0 rfl), ?_⟩
    refine cond_s h ?_ ?_ <;> clear h <;> intro hc h
    · have h := some_inj h
      cases h
      exact hK _ (hS.pick (A := [_]) [] rfl)
    · have h := some_inj h
      cases h
      exact hK _ (hS.pick (A := [_]) [] rfl)
  · have h := some_inj h
    cases h
    exact hK _ (hS.pick (A := [_]) [] rfl)

theorem wk_slices_Clone___float64_float64 {N : Nums} {P : Program} (H : AllOk N P) {w0 w : World} {L : List It} {q0 : Option Addr} {q0l q0c : Nat} {ws0 : List Nat} {u0 : List Nat} (hS : Ho w0 w L) (hq0 : Ent L (rdA (List.map (Value.float .f64) ws0) q0 q0l q0c)) (hx : T_slices_Clone___float64_float64 (List.map nf ws0) = some u0) {K : Value → World → Prop} (hK : ∀ (a0 : Option Addr) (n0 c0 : Nat) (rws0 : List Nat) (w1 : World), List.map nf rws0 = u0 → Ho w0 w1 ((sl a0 n0 c0 (List.map (Value.float .f64) rws0) N.t_float64) :: L) → K (.slice a0 n0 c0) w1) : CallsX P N.f_slices_Clone___float64_float64 #[.slice q0 q0l q0c] w K := by
  unfold T_slices_Clone___float64_float64 at hx
  have hd : (List.map nf ws0).length ≤ 4294967296 := by
    rcases Nat.lt_or_ge 4294967296 (List.map nf ws0).length with h | h
    · rw [decide_eq_false (by omega)] at hx; cases hx
    · exact h
  rw [decide_eq_true hd] at hx
  have hx := some_inj hx
  refine H.slices_Clone___float64_float64 q0 q0l q0c w _ ?_
  unfold S_slices_Clone___float64_float64
  have r0 := hq0.now (fun _ h => h) hS
  refine cond_i (fun hc => ?_) (fun hc => ?_)
  · have e : q0 = none := by cases q0 <;> simp_all
    have e0 : ws0 = [] := by
      cases ws0 with
      | nil => rfl
      | cons x l => obtain ⟨y, hy, _⟩ := r0.at_ 0 (by rw [r0.len]; simp); rw [e] at hy; cases hy
    subst e0
    exact hK none 0 0 [] w hx (hS.none (α := Nat) (enc := Value.float .f64))
  · refine lit_s (ks := ([] : List Nat)) (enc := Value.float .f64) (m := 0) hS rfl rfl ?_
    intro r w1 hS1
    refine app_s (ws := []) hS1 (by simp at hd ⊢; omega) ((hq0.mono tl1).now (fun _ h => h) hS1) (fun _ => rfl) rfl ?_
    intro a' c' w2 hS2
    exact hK a' _ c' ws0 w2 hx (by simpa using hS2)

theorem wk_solve_below {N : Nums} {P : Program} (H : AllOk N P) {w0 w : World} {L : List It} {q0_0 : Int} {q0_1 : Option Addr} {q0_1l q0_1c : Nat} {ws0_1 : List Nat} {q0_2 : Option Addr} {q0_2l q0_2c : Nat} {ws0_2 : List Nat} {q1 : Int} {q2 : Int} {u0 : Nat} (hS : Ho w0 w L) (hq0_1 : Ent L (rdA (List.map (Value.float .f64) ws0_1) q0_1 q0_1l q0_1c)) (hq0_2 : Ent L (rdA (List.map (Value.float .f64) ws0_2) q0_2 q0_2l q0_2c)) (hx : T_solve_below q0_0 (List.map nf ws0_1) (List.map nf ws0_2) q1 q2 = some u0) {K : Value → World → Prop} (hK : ∀ (z0 : Nat) (w1 : World), nf z0 = u0 → Ho w0 w1 (L) → K (.float .f64 z0) w1) : CallsX P N.f_solve_below #[.agg #[.int .i64 q0_0, .slice q0_1 q0_1l q0_1c, .slice q0_2 q0_2l q0_2c], .int .i64 q1, .int .i64 q2] w K := by
  refine H.solve_below q0_0 q0_1 q0_1l q0_1c q0_2 q0_2l q0_2c q1 q2 w _ ?_
  unfold S_solve_below
  unfold T_solve_below at hx
  have h := hx
  clear hx
  try dsimp only
  refine newM_s hS ?_; clear hS; intro r1 w hS
  refine ⟨_, _, _, (hS.cel mp0 rfl), ?_⟩
  refine ⟨by decide, ?_⟩
  replace h := bnd h
  obtain ⟨t1, ht1, h⟩ := h
  obtain ⟨z2, rfl, q3x, q3l, q3r⟩ := atF ht1
  clear ht1
  refine idx_s ((hq0_1.mono tl1).now (fun _ h => h) hS) q3x q3l q3r ?_; intro b4 hb4
  refine ⟨_, rd_get ((hq0_1.mono tl1).now (fun _ h => h) hS) hb4 q3x, ?_⟩
  have h := some_inj h
  cases h
  exact hK _ _ rfl (hS.pick (A := [_]) [] rfl)

theorem wk_solve_Forward {N : Nums} {P : Program} (H : AllOk N P) {w0 w : World} {L : List It} {q0_0 : Int} {q0_1 : Option Addr} {q0_1l q0_1c : Nat} {ws0_1 : List Nat} {q0_2 : Option Addr} {q0_2l q0_2c : Nat} {ws0_2 : List Nat} {q1 : Option Addr} {q1l q1c : Nat} {ws1 : List Nat} {u0 : List Nat} {u1 : Int} (hS : Ho w0 w L) (hq0_1 : Ent L (rdA (List.map (Value.float .f64) ws0_1) q0_1 q0_1l q0_1c)) (hq0_2 : Ent L (rdA (List.map (Value.float .f64) ws0_2) q0_2 q0_2l q0_2c)) (hq1 : Ent L (rdA (List.map (Value.float .f64) ws1) q1 q1l q1c)) (hx : T_solve_Forward q0_0 (List.map nf ws0_1) (List.map nf ws0_2) (List.map nf ws1) = some (u0, u1)) {K : Value → World → Prop} (hK : ∀ (a0 : Option Addr) (n0 c0 : Nat) (rws0 : List Nat) (w1 : World), List.map nf rws0 = u0 → Ho w0 w1 ((sl a0 n0 c0 (List.map (Value.float .f64) rws0) N.t_float64) :: L) → K (.tuple #[.slice a0 n0 c0, .int .i64 u1]) w1) : CallsX P N.f_solve_Forward #[.agg #[.int .i64 q0_0, .slice q0_1 q0_1l q0_1c, .slice q0_2 q0_2l q0_2c], .slice q1 q1l q1c] w K := by
  refine H.solve_Forward q0_0 q0_1 q0_1l q0_1c q0_2 q0_2l q0_2c q1 q1l q1c w _ ?_
  unfold S_solve_Forward
  unfold T_solve_Forward at hx
  have h := hx
  clear hx
  try dsimp only
  refine newM_s hS ?_; clear hS; intro r1 w hS
  refine ⟨_, (hS.cel mp0 rfl), ?_⟩
  refine ⟨_, _, _, (hS.cel mp0 rfl), ?_⟩
  refine ⟨_, _, _, (hS.cel mp0 rfl), ?_⟩
  replace h := bnd h
  obtain ⟨t1, ht1, h⟩ := h
  obtain rfl := lenF ht1 ((hq1.mono tl1).now (fun _ h => h) hS)
  clear ht1
  replace h := bnd h
  obtain ⟨t2, ht2, h⟩ := h
  refine wk_solve_fits H hS (hq0_1.mono tl1) (hq0_2.mono tl1) ht2 ?_; clear hS ht2; rintro w hS
  refine ⟨_, rfl, ?_⟩
  refine cond_s h ?_ ?_ <;> clear h <;> intro hc h
  · replace hS := hS.none (α := Nat) (enc := (Value.float .f64)) (t := N.t_float64)
    have h := some_inj h
    cases h
    exact hK _ _ _ _ _ rfl (hS.pick (A := [_, _]) [0] rfl)
  · replace h := bnd h
    obtain ⟨t3, ht3, h⟩ := h
    refine wk_slices_Clone___float64_float64 H hS (hq1.mono tl1) ht3 ?_; clear hS ht3; rintro a2 m2 c2 ws2 w rfl hS
    refine ⟨_, _, _, rfl, ?_⟩
    replace h := bnd h
    obtain ⟨t4, ht4, h⟩ := h
    obtain rfl := lenF ht4 ((Ent.sl mp0).now (fun _ h => h) hS)
    clear ht4
    replace h := bnd h
    obtain ⟨o4, h4, c4⟩ := h
    refine cutM_i (fun s w => ∃ (ws3 : List Nat), (List.map nf ws3) = o4 ∧ s = (()) ∧ Ho w0 w ((sl a2 m2 c2 (List.map (Value.float .f64) ws3) N.t_float64) :: L)) (fun J4 hJ4 => ?_) ?_
    · have h := h4
      clear h4
      refine iter_sim (fun s w t => ∃ (t6 : Int) (ws5 : List Nat), (t6, (List.map nf ws5)) = t ∧ s = (t6, ()) ∧ Ho w0 w ((sl a2 m2 c2 (List.map (Value.float .f64) ws5) N.t_float64) :: (cl r1 [.int .i64 q0_0, .slice q0_1 q0_1l q0_1c, .slice q0_2 q0_2l q0_2c] N.t_Factor) :: L)) ?_ h ⟨_, _, rfl, rfl, hS⟩
      clear h hS
      rintro s w t X q ⟨t6, ws5, rfl, rfl, hS⟩ h hX hO
      unfold T_solve_Forward_b7 at h
      try dsimp only
      refine cond_s h ?_ ?_ <;> clear h <;> intro hc h
      · replace h := bnd h
        obtain ⟨o7, h7, c7⟩ := h
        refine cutM_i (fun s w => ∃ (ws6 : List Nat), (List.map nf ws6) = o7 ∧ s = (()) ∧ Ho w0 w ((sl a2 m2 c2 (List.map (Value.float .f64) ws6) N.t_float64) :: (cl r1 [.int .i64 q0_0, .slice q0_1 q0_1l q0_1c, .slice q0_2 q0_2l q0_2c] N.t_Factor) :: L)) (fun J7 hJ7 => ?_) ?_
        · have h := h7
          clear h7
          refine iter_sim (fun s w t => ∃ (t9 : Int) (ws8 : List Nat), (t9, (List.map nf ws8)) = t ∧ s = (t9, ()) ∧ Ho w0 w ((sl a2 m2 c2 (List.map (Value.float .f64) ws8) N.t_float64) :: (cl r1 [.int .i64 q0_0, .slice q0_1 q0_1l q0_1c, .slice q0_2 q0_2l q0_2c] N.t_Factor) :: L)) ?_ h ⟨_, _, rfl, rfl, hS⟩
          clear h hS
          rintro s w t X q ⟨t9, ws8, rfl, rfl, hS⟩ h hX hO
          unfold T_solve_Forward_b9 at h
          try dsimp only
          refine cond_s h ?_ ?_ <;> clear h <;> intro hc h
          · replace h := bnd h
            obtain ⟨t11, ht11, h⟩ := h
            obtain ⟨z9, rfl, q10x, q10l, q10r⟩ := atF ht11
            clear ht11
            refine idx_s ((Ent.sl mp0).now (fun _ h => h) hS) q10x q10l q10r ?_; intro b11 hb11
            refine ⟨_, rd_get ((Ent.sl mp0).now (fun _ h => h) hS) hb11 q10x, ?_⟩
            refine ⟨_, (hS.cel mp1 rfl), ?_⟩
            refine ⟨_, _, _, (hS.cel mp1 rfl), ?_⟩
            refine ⟨_, _, _, (hS.cel mp1 rfl), ?_⟩
            replace h := bnd h
            obtain ⟨t12, ht12, h⟩ := h
            obtain ⟨z12, rfl, q13x, q13l, q13r⟩ := atF ht12
            clear ht12
            refine idx_s ((Ent.sl mp0).now (fun _ h => h) hS) q13x q13l q13r ?_; intro b14 hb14
            refine ⟨_, rd_get ((Ent.sl mp0).now (fun _ h => h) hS) hb14 q13x, ?_⟩
            refine drM_s hS ?_; clear hS; intro w hS
            replace h := bnd h
            obtain ⟨t13, ht13, h⟩ := h
            refine wk_solve_below H hS (hq0_1.mono tl2) (hq0_2.mono tl2) ht13 ?_; clear hS ht13; rintro z15 w rfl hS
            refine ⟨_, rfl, ?_⟩
            refine ⟨rd_get ((Ent.sl mp0).now (fun _ h => h) hS) hb14 q13x, ?_⟩
            refine ⟨rd_get ((Ent.sl mp0).now (fun _ h => h) hS) hb11 q10x, ?_⟩
            replace h := bnd h
            obtain ⟨t14, ht14, h⟩ := h
            refine fmul_s ht14 hS ?_; clear ht14; rintro z16 _ rfl _
            replace h := bnd h
            obtain ⟨t15, ht15, h⟩ := h
            refine fsub_s ht15 hS ?_; clear ht15; rintro z17 _ rfl _
            replace h := bnd h
            obtain ⟨t16, ht16, h⟩ := h
            obtain ⟨z18, rfl, q19x, q19l, q19r⟩ := atF ht16
            clear ht16
            refine idx_s ((Ent.sl mp0).now (fun _ h => h) hS) q19x q19l q19r ?_; intro b20 hb20
            refine drM_s hS ?_; clear hS; intro w hS
            replace h := bnd h
            obtain ⟨t17, ht17, h⟩ := h
            obtain rfl := setF ht17
            clear ht17
            refine sto_s hS hb20 q19r ?_; clear hS; intro w hS
            refine drM_s hS ?_; clear hS; intro w hS
            obtain rfl := some_inj h
            exact hX _ rfl _ _ ⟨_, _, rfl, rfl, hS⟩
          · obtain rfl := some_inj h
            have h := congrArg some (hO _ rfl)
            obtain rfl := some_inj h
            exact hJ7 _ _ ⟨_, rfl, rfl, hS⟩
        · clear h7 hS
          rintro s w ⟨ws6, rfl, rfl, hS⟩
          have h := c7
          clear c7
          try dsimp only
          obtain rfl := some_inj h
          exact hX _ rfl _ _ ⟨_, _, rfl, rfl, hS⟩
      · obtain rfl := some_inj h
        have h := congrArg some (hO _ rfl)
        obtain rfl := some_inj h
        exact hJ4 _ _ ⟨_, rfl, rfl, (hS.pick (A := [_, _]) [0] rfl)⟩
    · clear h4 hS
      rintro s w ⟨ws3, rfl, rfl, hS⟩
      have h := c4
      clear c4
      try dsimp only
      have h := some_inj h
      cases h
      exact hK _ _ _ _ _ rfl hS

theorem wk_girderref13_Right {N : Nums} {P : Program} (H : AllOk N P) {w0 w : World} {L : List It} {q0_0 : Int} {q0_1 : Option Addr} {q0_1l q0_1c : Nat} {ws0_1 : List Nat} {q0_2 : Option Addr} {q0_2l q0_2c : Nat} {ws0_2 : List Nat} {u0 : Bool} (hS : Ho w0 w L) (hq0_1 : Ent L (rdA (List.map (Value.float .f64) ws0_1) q0_1 q0_1l q0_1c)) (hq0_2 : Ent L (rdA (List.map (Value.float .f64) ws0_2) q0_2 q0_2l q0_2c)) (hx : T_girderref13_Right q0_0 (List.map nf ws0_1) (List.map nf ws0_2) = some u0) {K : Value → World → Prop} (hK : ∀  (w1 : World), Ho w0 w1 (L) → K (.bool u0) w1) : CallsX P N.f_girderref13_Right #[.agg #[.int .i64 q0_0, .slice q0_1 q0_1l q0_1c, .slice q0_2 q0_2l q0_2c]] w K := by
  refine H.girderref13_Right q0_0 q0_1 q0_1l q0_1c q0_2 q0_2l q0_2c w _ ?_
  unfold S_girderref13_Right
  unfold T_girderref13_Right at hx
  have h := hx
  clear hx
  try dsimp only
  refine newM_s hS ?_; clear hS; intro r1 w hS
  refine ⟨_, (hS.cel mp0 rfl), ?_⟩
  refine cond_s h ?_ ?_ <;> clear h <;> intro hc h
  · refine ⟨_, (hS.cel mp0 rfl), ?_⟩
    refine cond_s h ?_ ?_ <;> clear h <;> intro hc h
    · refine ⟨_, _, _, (hS.cel mp0 rfl), ?_⟩
      replace h := bnd h
      obtain ⟨t1, ht1, h⟩ := h
      obtain rfl := lenF ht1 ((hq0_1.mono tl1).now (fun _ h => h) hS)
      clear ht1
      refine ⟨_, (hS.cel mp0 rfl), ?_⟩
      refine ⟨_, (hS.cel mp0 rfl), ?_⟩
      refine ⟨by decide, ?_⟩
      refine cond_s h ?_ ?_ <;> clear h <;> intro hc h
      · refine ⟨_, _, _, (hS.cel mp0 rfl), ?_⟩
        replace h := bnd h
        obtain ⟨t2, ht2, h⟩ := h
        obtain rfl := lenF ht2 ((hq0_2.mono tl1).now (fun _ h => h) hS)
        clear ht2
        refine ⟨_, (hS.cel mp0 rfl), ?_⟩
        have h := some_inj h
        cases h
        exact hK _ (hS.pick (A := [_]) [] rfl)
      · have h := some_inj h
        cases h
        exact hK _ (hS.pick (A := [_]) [] rfl)
    · have h := some_inj h
      cases h
      exact hK _ (hS.pick (A := [_]) [] rfl)
  · have h := some_inj h
    cases h
    exact hK _ (hS.pick (A := [_]) [] rfl)

theorem wk_girderref13_at {N : Nums} {P : Program} (H : AllOk N P) {w0 w : World} {L : List It} {q0_0 : Int} {q0_1 : Option Addr} {q0_1l q0_1c : Nat} {ws0_1 : List Nat} {q0_2 : Option Addr} {q0_2l q0_2c : Nat} {ws0_2 : List Nat} {q1 : Int} {q2 : Int} {u0 : Nat} (hS : Ho w0 w L) (hq0_1 : Ent L (rdA (List.map (Value.float .f64) ws0_1) q0_1 q0_1l q0_1c)) (hq0_2 : Ent L (rdA (List.map (Value.float .f64) ws0_2) q0_2 q0_2l q0_2c)) (hx : T_girderref13_at q0_0 (List.map nf ws0_1) (List.map nf ws0_2) q1 q2 = some u0) {K : Value → World → Prop} (hK : ∀ (z0 : Nat) (w1 : World), nf z0 = u0 → Ho w0 w1 (L) → K (.float .f64 z0) w1) : CallsX P N.f_girderref13_at #[.agg #[.int .i64 q0_0, .slice q0_1 q0_1l q0_1c, .slice q0_2 q0_2l q0_2c], .int .i64 q1, .int .i64 q2] w K := by
  refine H.girderref13_at q0_0 q0_1 q0_1l q0_1c q0_2 q0_2l q0_2c q1 q2 w _ ?_
  unfold S_girderref13_at
  unfold T_girderref13_at at hx
  have h := hx
  clear hx
  try dsimp only
  refine newM_s hS ?_; clear hS; intro r1 w hS
  refine ⟨_, _, _, (hS.cel mp0 rfl), ?_⟩
  refine ⟨by decide, ?_⟩
  replace h := bnd h
  obtain ⟨t1, ht1, h⟩ := h
  obtain ⟨z2, rfl, q3x, q3l, q3r⟩ := atF ht1
  clear ht1
  refine idx_s ((hq0_1.mono tl1).now (fun _ h => h) hS) q3x q3l q3r ?_; intro b4 hb4
  refine ⟨_, rd_get ((hq0_1.mono tl1).now (fun _ h => h) hS) hb4 q3x, ?_⟩
  have h := some_inj h
  cases h
  exact hK _ _ rfl (hS.pick (A := [_]) [] rfl)

theorem wk_girderref13_Forward {N : Nums} {P : Program} (H : AllOk N P) {w0 w : World} {L : List It} {q0_0 : Int} {q0_1 : Option Addr} {q0_1l q0_1c : Nat} {ws0_1 : List Nat} {q0_2 : Option Addr} {q0_2l q0_2c : Nat} {ws0_2 : List Nat} {q1 : Option Addr} {q1l q1c : Nat} {ws1 : List Nat} {u0 : List Nat} {u1 : Int} (hS : Ho w0 w L) (hq0_1 : Ent L (rdA (List.map (Value.float .f64) ws0_1) q0_1 q0_1l q0_1c)) (hq0_2 : Ent L (rdA (List.map (Value.float .f64) ws0_2) q0_2 q0_2l q0_2c)) (hq1 : Ent L (rdA (List.map (Value.float .f64) ws1) q1 q1l q1c)) (hx : T_girderref13_Forward q0_0 (List.map nf ws0_1) (List.map nf ws0_2) (List.map nf ws1) = some (u0, u1)) {K : Value → World → Prop} (hK : ∀ (a0 : Option Addr) (n0 c0 : Nat) (rws0 : List Nat) (w1 : World), List.map nf rws0 = u0 → Ho w0 w1 ((sl a0 n0 c0 (List.map (Value.float .f64) rws0) N.t_float64) :: L) → K (.tuple #[.slice a0 n0 c0, .int .i64 u1]) w1) : CallsX P N.f_girderref13_Forward #[.agg #[.int .i64 q0_0, .slice q0_1 q0_1l q0_1c, .slice q0_2 q0_2l q0_2c], .slice q1 q1l q1c] w K := by
  refine H.girderref13_Forward q0_0 q0_1 q0_1l q0_1c q0_2 q0_2l q0_2c q1 q1l q1c w _ ?_
  unfold S_girderref13_Forward
  unfold T_girderref13_Forward at hx
  have h := hx
  clear hx
  try dsimp only
  refine newM_s hS ?_; clear hS; intro r1 w hS
  replace h := bnd h
  obtain ⟨o2, h2, c2⟩ := h
  refine cutM_i (fun s w => ∃ (t1 : Bool), t1 = o2 ∧ s = (t1, ()) ∧ Ho w0 w ((cl r1 [.int .i64 q0_0, .slice q0_1 q0_1l q0_1c, .slice q0_2 q0_2l q0_2c] N.t_Factor) :: L)) (fun J2 hJ2 => ?_) ?_
  · have h := h2
    clear h2
    refine ⟨_, (hS.cel mp0 rfl), ?_⟩
    refine ⟨_, _, _, (hS.cel mp0 rfl), ?_⟩
    refine ⟨_, _, _, (hS.cel mp0 rfl), ?_⟩
    replace h := bnd h
    obtain ⟨t2, ht2, h⟩ := h
    refine wk_girderref13_Right H hS (hq0_1.mono tl1) (hq0_2.mono tl1) ht2 ?_; clear hS ht2; rintro w hS
    refine ⟨_, rfl, ?_⟩
    refine cond_s h ?_ ?_ <;> clear h <;> intro hc h
    · replace h := bnd h
      obtain ⟨t3, ht3, h⟩ := h
      obtain rfl := lenF ht3 ((hq1.mono tl1).now (fun _ h => h) hS)
      clear ht3
      refine ⟨_, (hS.cel mp0 rfl), ?_⟩
      obtain rfl := some_inj h
      exact hJ2 _ _ ⟨_, rfl, rfl, hS⟩
    · obtain rfl := some_inj h
      exact hJ2 _ _ ⟨_, rfl, rfl, hS⟩
  · clear h2 hS
    rintro s w ⟨t1, rfl, rfl, hS⟩
    have h := c2
    clear c2
    try dsimp only
    refine cond_s h ?_ ?_ <;> clear h <;> intro hc h
    · replace hS := hS.none (α := Nat) (enc := (Value.float .f64)) (t := N.t_float64)
      have h := some_inj h
      cases h
      exact hK _ _ _ _ _ rfl (hS.pick (A := [_, _]) [0] rfl)
    · refine ⟨_, (hS.cel mp0 rfl), ?_⟩
      replace h := bnd h
      obtain ⟨t4, ht4, h⟩ := h
      obtain ⟨rfl, kt4⟩ := mkF ht4
      clear ht4
      refine mk_s (enc := (Value.float .f64)) hS kt4 rfl ?_; clear hS kt4; intro r3 w hS
      replace h := bnd h
      obtain ⟨o5, h5, c5⟩ := h
      refine cutM_i (fun s w => ∃ (ws4 : List Nat), (List.map nf ws4) = o5 ∧ s = (()) ∧ Ho w0 w ((sl (some ⟨r3, 0, none⟩) ((q0_0).toNat) ((q0_0).toNat) (List.map (Value.float .f64) ws4) N.t_float64) :: L)) (fun J5 hJ5 => ?_) ?_
      · have h := h5
        clear h5
        refine iter_sim (fun s w t => ∃ (t6 : Int) (ws6 : List Nat), (t6, (List.map nf ws6)) = t ∧ s = (t6, ()) ∧ Ho w0 w ((sl (some ⟨r3, 0, none⟩) ((q0_0).toNat) ((q0_0).toNat) (List.map (Value.float .f64) ws6) N.t_float64) :: (cl r1 [.int .i64 q0_0, .slice q0_1 q0_1l q0_1c, .slice q0_2 q0_2l q0_2c] N.t_Factor) :: L)) ?_ h ⟨_, _, rfl, rfl, hS⟩
        clear h hS
        rintro s w t X q ⟨t6, ws6, rfl, rfl, hS⟩ h hX hO
        unfold T_girderref13_Forward_b7 at h
        try dsimp only
        refine ⟨_, (hS.cel mp1 rfl), ?_⟩
        refine cond_s h ?_ ?_ <;> clear h <;> intro hc h
        · replace h := bnd h
          obtain ⟨t8, ht8, h⟩ := h
          obtain ⟨z7, rfl, q8x, q8l, q8r⟩ := atF ht8
          clear ht8
          refine idx_s ((hq1.mono tl2).now (fun _ h => h) hS) q8x q8l q8r ?_; intro b9 hb9
          refine ⟨_, rd_get ((hq1.mono tl2).now (fun _ h => h) hS) hb9 q8x, ?_⟩
          replace h := bnd h
          obtain ⟨o11, h11, c11⟩ := h
          refine cutM_i (fun s w => ∃ (z10 : Nat), (nf z10) = o11 ∧ s = (z10, ()) ∧ Ho w0 w ((sl (some ⟨r3, 0, none⟩) ((q0_0).toNat) ((q0_0).toNat) (List.map (Value.float .f64) ws6) N.t_float64) :: (cl r1 [.int .i64 q0_0, .slice q0_1 q0_1l q0_1c, .slice q0_2 q0_2l q0_2c] N.t_Factor) :: L)) (fun J11 hJ11 => ?_) ?_
          · have h := h11
            clear h11
            refine iter_sim (fun s w t => ∃ (z12 : Nat) (t11 : Int), ((nf z12), t11) = t ∧ s = (z12, t11, ()) ∧ Ho w0 w ((sl (some ⟨r3, 0, none⟩) ((q0_0).toNat) ((q0_0).toNat) (List.map (Value.float .f64) ws6) N.t_float64) :: (cl r1 [.int .i64 q0_0, .slice q0_1 q0_1l q0_1c, .slice q0_2 q0_2l q0_2c] N.t_Factor) :: L)) ?_ h ⟨_, _, rfl, rfl, hS⟩
            clear h hS
            rintro s w t X q ⟨z12, t11, rfl, rfl, hS⟩ h hX hO
            unfold T_girderref13_Forward_b9 at h
            try dsimp only
            refine cond_s h ?_ ?_ <;> clear h <;> intro hc h
            · refine ⟨_, (hS.cel mp1 rfl), ?_⟩
              refine ⟨_, _, _, (hS.cel mp1 rfl), ?_⟩
              refine ⟨_, _, _, (hS.cel mp1 rfl), ?_⟩
              replace h := bnd h
              obtain ⟨t12, ht12, h⟩ := h
              obtain ⟨z13, rfl, q14x, q14l, q14r⟩ := atF ht12
              clear ht12
              refine idy_s ((Ent.sl mp0).now (fun _ h => h) hS) q14x q14l q14r ?_
              refine ⟨_, rd_get ((Ent.sl mp0).now (fun _ h => h) hS) rfl q14x, ?_⟩
              refine drM_s hS ?_; clear hS; intro w hS
              replace h := bnd h
              obtain ⟨t13, ht13, h⟩ := h
              refine wk_girderref13_at H hS (hq0_1.mono tl2) (hq0_2.mono tl2) ht13 ?_; clear hS ht13; rintro z16 w rfl hS
              refine ⟨_, rfl, ?_⟩
              refine ⟨rd_get ((Ent.sl mp0).now (fun _ h => h) hS) rfl q14x, ?_⟩
              replace h := bnd h
              obtain ⟨t14, ht14, h⟩ := h
              refine fmul_s ht14 hS ?_; clear ht14; rintro z17 _ rfl _
              refine drM_s hS ?_; clear hS; intro w hS
              replace h := bnd h
              obtain ⟨t15, ht15, h⟩ := h
              refine fsub_s ht15 hS ?_; clear hS ht15; rintro z18 w rfl hS
              obtain rfl := some_inj h
              exact hX _ rfl _ _ ⟨_, _, rfl, rfl, hS⟩
            · obtain rfl := some_inj h
              have h := congrArg some (hO _ rfl)
              obtain rfl := some_inj h
              exact hJ11 _ _ ⟨_, rfl, rfl, hS⟩
          · clear h11 hS
            rintro s w ⟨z10, rfl, rfl, hS⟩
            have h := c11
            clear c11
            try dsimp only
            replace h := bnd h
            obtain ⟨t16, ht16, h⟩ := h
            obtain ⟨z19, rfl, q20x, q20l, q20r⟩ := atF ht16
            clear ht16
            refine idy_s ((Ent.sl mp0).now (fun _ h => h) hS) q20x q20l q20r ?_
            replace h := bnd h
            obtain ⟨t17, ht17, h⟩ := h
            obtain rfl := setF ht17
            clear ht17
            refine sto_s hS rfl q20r ?_; clear hS; intro w hS
            obtain rfl := some_inj h
            exact hX _ rfl _ _ ⟨_, _, rfl, rfl, hS⟩
        · obtain rfl := some_inj h
          have h := congrArg some (hO _ rfl)
          obtain rfl := some_inj h
          exact hJ5 _ _ ⟨_, rfl, rfl, (hS.pick (A := [_, _]) [0] rfl)⟩
      · clear h5 hS
        rintro s w ⟨ws4, rfl, rfl, hS⟩
        have h := c5
        clear c5
        try dsimp only
        have h := some_inj h
        cases h
        exact hK _ _ _ _ _ rfl hS

theorem wk_math_Float64bits {N : Nums} {P : Program} (H : AllOk N P) {w0 w : World} {L : List It} {q0 : Nat} {u0 : Int} (hS : Ho w0 w L)  (hx : T_math_Float64bits (nf q0) = some u0) {K : Value → World → Prop} (hK : ∀  (w1 : World), Ho w0 w1 (L) → K (.int .u64 u0) w1) : CallsX P N.f_math_Float64bits #[.float .f64 q0] w K := by
  unfold T_math_Float64bits at hx
  have hn : isNaN q0 = false := by
    cases e : isNaN q0 with
    | false => rfl
    | true => rw [isNaN_nf, e] at hx; cases hx
  rw [isNaN_nf, hn, nf_of_not hn] at hx
  have hx := some_inj hx
  subst hx
  exact H.math_Float64bits q0 w _ (hK _ hS)

theorem wk_girderkit_SameFloat {N : Nums} {P : Program} (H : AllOk N P) {w0 w : World} {L : List It} {q0 : Nat} {q1 : Nat} {u0 : Bool} (hS : Ho w0 w L)  (hx : T_girderkit_SameFloat (nf q0) (nf q1) = some u0) {K : Value → World → Prop} (hK : ∀  (w1 : World), Ho w0 w1 (L) → K (.bool u0) w1) : CallsX P N.f_girderkit_SameFloat #[.float .f64 q0, .float .f64 q1] w K := by
  unfold T_girderkit_SameFloat at hx
  have hx := some_inj hx
  subst hx
  refine (sameFloat_c H q0 q1 w).mono ?_
  rintro _ w1 ⟨rfl, h1⟩
  exact hK _ (hS.next h1)

theorem wk_girderkit_SameReals {N : Nums} {P : Program} (H : AllOk N P) {w0 w : World} {L : List It} {q0 : Option Addr} {q0l q0c : Nat} {ws0 : List Nat} {q1 : Option Addr} {q1l q1c : Nat} {ws1 : List Nat} {u0 : Bool} (hS : Ho w0 w L) (hq0 : Ent L (rdA (List.map (Value.float .f64) ws0) q0 q0l q0c)) (hq1 : Ent L (rdA (List.map (Value.float .f64) ws1) q1 q1l q1c)) (hx : T_girderkit_SameReals (List.map nf ws0) (List.map nf ws1) = some u0) {K : Value → World → Prop} (hK : ∀  (w1 : World), Ho w0 w1 (L) → K (.bool u0) w1) : CallsX P N.f_girderkit_SameReals #[.slice q0 q0l q0c, .slice q1 q1l q1c] w K := by
  refine H.girderkit_SameReals q0 q0l q0c q1 q1l q1c w _ ?_
  unfold S_girderkit_SameReals
  unfold T_girderkit_SameReals at hx
  have h := hx
  clear hx
  try dsimp only
  replace h := bnd h
  obtain ⟨t1, ht1, h⟩ := h
  obtain rfl := lenF ht1 (hq0.now (fun _ h => h) hS)
  clear ht1
  replace h := bnd h
  obtain ⟨t2, ht2, h⟩ := h
  obtain rfl := lenF ht2 (hq1.now (fun _ h => h) hS)
  clear ht2
  refine cond_s h ?_ ?_ <;> clear h <;> intro hc h
  · have h := some_inj h
    cases h
    exact hK _ hS
  · replace h := bnd h
    obtain ⟨o1, h1, c1⟩ := h
    refine cutM_i (fun s w =>  .inl () = o1 ∧ s = (()) ∧ Ho w0 w (L)) (fun J1 hJ1 => ?_) ?_
    · have h := h1
      clear h1
      refine iter_sim (fun s w t => ∃ (t3 : Int), t3 = t ∧ s = (t3, ()) ∧ Ho w0 w (L)) ?_ h ⟨_, rfl, rfl, hS⟩
      clear h hS
      rintro s w t X q ⟨t3, rfl, rfl, hS⟩ h hX hO
      unfold T_girderkit_SameReals_b2 at h
      try dsimp only
      replace h := bnd h
      obtain ⟨t4, ht4, h⟩ := h
      obtain rfl := lenF ht4 (hq0.now (fun _ h => h) hS)
      clear ht4
      refine cond_s h ?_ ?_ <;> clear h <;> intro hc h
      · replace h := bnd h
        obtain ⟨t5, ht5, h⟩ := h
        obtain ⟨z2, rfl, q3x, q3l, q3r⟩ := atF ht5
        clear ht5
        refine idx_s (hq0.now (fun _ h => h) hS) q3x q3l q3r ?_; intro b4 hb4
        refine ⟨_, rd_get (hq0.now (fun _ h => h) hS) hb4 q3x, ?_⟩
        replace h := bnd h
        obtain ⟨t6, ht6, h⟩ := h
        obtain ⟨z5, rfl, q6x, q6l, q6r⟩ := atF ht6
        clear ht6
        refine idx_s (hq1.now (fun _ h => h) hS) q6x q6l q6r ?_; intro b7 hb7
        refine ⟨_, rd_get (hq1.now (fun _ h => h) hS) hb7 q6x, ?_⟩
        refine drM_s hS ?_; clear hS; intro w hS
        replace h := bnd h
        obtain ⟨t7, ht7, h⟩ := h
        refine wk_girderkit_SameFloat H hS  ht7 ?_; clear hS ht7; rintro w hS
        refine ⟨_, rfl, ?_⟩
        refine drM_s hS ?_; clear hS; intro w hS
        refine cond_s h ?_ ?_ <;> clear h <;> intro hc h
        · obtain rfl := some_inj h
          have h := congrArg some (hO _ rfl)
          obtain rfl := some_inj h
          have h := c1
          have h := some_inj h
          cases h
          exact hK _ hS
        · obtain rfl := some_inj h
          exact hX _ rfl _ _ ⟨_, rfl, rfl, hS⟩
      · obtain rfl := some_inj h
        have h := congrArg some (hO _ rfl)
        obtain rfl := some_inj h
        exact hJ1 _ _ ⟨rfl, rfl, hS⟩
    · clear h1 hS
      rintro s w ⟨rfl, rfl, hS⟩
      have h := c1
      clear c1
      try dsimp only
      have h := some_inj h
      cases h
      exact hK _ hS

theorem wk_girderlaw13_is {N : Nums} {P : Program} (H : AllOk N P) {w0 w : World} {L : List It} {q0 : Option Addr} {q0l q0c : Nat} {ws0 : List Nat} {q1 : Int} {q2 : Option Addr} {q2l q2c : Nat} {ws2 : List Nat} {q3 : Int} {u0 : Bool} (hS : Ho w0 w L) (hq0 : Ent L (rdA (List.map (Value.float .f64) ws0) q0 q0l q0c)) (hq2 : Ent L (rdA (List.map (Value.float .f64) ws2) q2 q2l q2c)) (hx : T_girderlaw13_is (List.map nf ws0) q1 (List.map nf ws2) q3 = some u0) {K : Value → World → Prop} (hK : ∀  (w1 : World), Ho w0 w1 (L) → K (.bool u0) w1) : CallsX P N.f_girderlaw13_is #[.slice q0 q0l q0c, .int .i64 q1, .slice q2 q2l q2c, .int .i64 q3] w K := by
  refine H.girderlaw13_is q0 q0l q0c q1 q2 q2l q2c q3 w _ ?_
  unfold S_girderlaw13_is
  unfold T_girderlaw13_is at hx
  have h := hx
  clear hx
  try dsimp only
  refine cond_s h ?_ ?_ <;> clear h <;> intro hc h
  · replace h := bnd h
    obtain ⟨t1, ht1, h⟩ := h
    refine wk_girderkit_SameReals H hS hq0 hq2 ht1 ?_; clear hS ht1; rintro w hS
    refine ⟨_, rfl, ?_⟩
    have h := some_inj h
    cases h
    exact hK _ hS
  · have h := some_inj h
    cases h
    exact hK _ hS

theorem wk_slices_Index___float64_float64 {N : Nums} {P : Program} (H : AllOk N P) {w0 w : World} {L : List It} {q0 : Option Addr} {q0l q0c : Nat} {ws0 : List Nat} {q1 : Nat} {u0 : Int} (hS : Ho w0 w L) (hq0 : Ent L (rdA (List.map (Value.float .f64) ws0) q0 q0l q0c)) (hx : T_slices_Index___float64_float64 (List.map nf ws0) (nf q1) = some u0) {K : Value → World → Prop} (hK : ∀  (w1 : World), Ho w0 w1 (L) → K (.int .i64 u0) w1) : CallsX P N.f_slices_Index___float64_float64 #[.slice q0 q0l q0c, .float .f64 q1] w K := by
  refine H.slices_Index___float64_float64 q0 q0l q0c q1 w _ ?_
  unfold S_slices_Index___float64_float64
  unfold T_slices_Index___float64_float64 at hx
  have h := hx
  clear hx
  try dsimp only
  replace h := bnd h
  obtain ⟨t1, ht1, h⟩ := h
  obtain rfl := lenF ht1 (hq0.now (fun _ h => h) hS)
  clear ht1
  replace h := bnd h
  obtain ⟨o1, h1, c1⟩ := h
  refine cutM_i (fun s w =>  .inl () = o1 ∧ s = (()) ∧ Ho w0 w (L)) (fun J1 hJ1 => ?_) ?_
  · have h := h1
    clear h1
    refine iter_sim (fun s w t => ∃ (t2 : Int), t2 = t ∧ s = (t2, ()) ∧ Ho w0 w (L)) ?_ h ⟨_, rfl, rfl, hS⟩
    clear h hS
    rintro s w t X q ⟨t2, rfl, rfl, hS⟩ h hX hO
    unfold T_slices_Index___float64_float64_b2 at h
    try dsimp only
    refine cond_s h ?_ ?_ <;> clear h <;> intro hc h
    · replace h := bnd h
      obtain ⟨t3, ht3, h⟩ := h
      obtain ⟨z2, rfl, q3x, q3l, q3r⟩ := atF ht3
      clear ht3
      refine idx_s (hq0.now (fun _ h => h) hS) q3x q3l q3r ?_; intro b4 hb4
      refine ⟨_, rd_get (hq0.now (fun _ h => h) hS) hb4 q3x, ?_⟩
      replace h := bnd h
      obtain ⟨t4, ht4, h⟩ := h
      obtain rfl := feq_s ht4
      clear ht4
      refine cond_s h ?_ ?_ <;> clear h <;> intro hc h
      · obtain rfl := some_inj h
        have h := congrArg some (hO _ rfl)
        obtain rfl := some_inj h
        have h := c1
        have h := some_inj h
        cases h
        exact hK _ hS
      · obtain rfl := some_inj h
        exact hX _ rfl _ _ ⟨_, rfl, rfl, hS⟩
    · obtain rfl := some_inj h
      have h := congrArg some (hO _ rfl)
      obtain rfl := some_inj h
      exact hJ1 _ _ ⟨rfl, rfl, hS⟩
  · clear h1 hS
    rintro s w ⟨rfl, rfl, hS⟩
    have h := c1
    clear c1
    try dsimp only
    have h := some_inj h
    cases h
    exact hK _ hS

theorem wk_slices_Contains___float64_float64 {N : Nums} {P : Program} (H : AllOk N P) {w0 w : World} {L : List It} {q0 : Option Addr} {q0l q0c : Nat} {ws0 : List Nat} {q1 : Nat} {u0 : Bool} (hS : Ho w0 w L) (hq0 : Ent L (rdA (List.map (Value.float .f64) ws0) q0 q0l q0c)) (hx : T_slices_Contains___float64_float64 (List.map nf ws0) (nf q1) = some u0) {K : Value → World → Prop} (hK : ∀  (w1 : World), Ho w0 w1 (L) → K (.bool u0) w1) : CallsX P N.f_slices_Contains___float64_float64 #[.slice q0 q0l q0c, .float .f64 q1] w K := by
  refine H.slices_Contains___float64_float64 q0 q0l q0c q1 w _ ?_
  unfold S_slices_Contains___float64_float64
  unfold T_slices_Contains___float64_float64 at hx
  have h := hx
  clear hx
  try dsimp only
  replace h := bnd h
  obtain ⟨t1, ht1, h⟩ := h
  refine wk_slices_Index___float64_float64 H hS hq0 ht1 ?_; clear hS ht1; rintro w hS
  refine ⟨_, rfl, ?_⟩
  have h := some_inj h
  cases h
  exact hK _ hS

theorem wk_solve_Back {N : Nums} {P : Program} (H : AllOk N P) {w0 w : World} {L : List It} {q0_0 : Int} {q0_1 : Option Addr} {q0_1l q0_1c : Nat} {ws0_1 : List Nat} {q0_2 : Option Addr} {q0_2l q0_2c : Nat} {ws0_2 : List Nat} {q1 : Option Addr} {q1l q1c : Nat} {ws1 : List Nat} {u0 : List Nat} {u1 : Int} (hS : Ho w0 w L) (hq0_1 : Ent L (rdA (List.map (Value.float .f64) ws0_1) q0_1 q0_1l q0_1c)) (hq0_2 : Ent L (rdA (List.map (Value.float .f64) ws0_2) q0_2 q0_2l q0_2c)) (hq1 : Ent L (rdA (List.map (Value.float .f64) ws1) q1 q1l q1c)) (hx : T_solve_Back q0_0 (List.map nf ws0_1) (List.map nf ws0_2) (List.map nf ws1) = some (u0, u1)) {K : Value → World → Prop} (hK : ∀ (a0 : Option Addr) (n0 c0 : Nat) (rws0 : List Nat) (w1 : World), List.map nf rws0 = u0 → Ho w0 w1 ((sl a0 n0 c0 (List.map (Value.float .f64) rws0) N.t_float64) :: L) → K (.tuple #[.slice a0 n0 c0, .int .i64 u1]) w1) : CallsX P N.f_solve_Back #[.agg #[.int .i64 q0_0, .slice q0_1 q0_1l q0_1c, .slice q0_2 q0_2l q0_2c], .slice q1 q1l q1c] w K := by
  refine H.solve_Back q0_0 q0_1 q0_1l q0_1c q0_2 q0_2l q0_2c q1 q1l q1c w _ ?_
  unfold S_solve_Back
  unfold T_solve_Back at hx
  have h := hx
  clear hx
  try dsimp only
  refine newM_s hS ?_; clear hS; intro r1 w hS
  refine ⟨_, (hS.cel mp0 rfl), ?_⟩
  refine ⟨_, _, _, (hS.cel mp0 rfl), ?_⟩
  refine ⟨_, _, _, (hS.cel mp0 rfl), ?_⟩
  replace h := bnd h
  obtain ⟨t1, ht1, h⟩ := h
  obtain rfl := lenF ht1 ((hq1.mono tl1).now (fun _ h => h) hS)
  clear ht1
  replace h := bnd h
  obtain ⟨t2, ht2, h⟩ := h
  refine wk_solve_fits H hS (hq0_1.mono tl1) (hq0_2.mono tl1) ht2 ?_; clear hS ht2; rintro w hS
  refine ⟨_, rfl, ?_⟩
  refine cond_s h ?_ ?_ <;> clear h <;> intro hc h
  · replace hS := hS.none (α := Nat) (enc := (Value.float .f64)) (t := N.t_float64)
    have h := some_inj h
    cases h
    exact hK _ _ _ _ _ rfl (hS.pick (A := [_, _]) [0] rfl)
  · refine ⟨_, _, _, (hS.cel mp0 rfl), ?_⟩
    replace h := bnd h
    obtain ⟨t3, ht3, h⟩ := h
    refine wk_slices_Contains___float64_float64 H hS (hq0_2.mono tl1) ht3 ?_; clear hS ht3; rintro w hS
    refine ⟨_, rfl, ?_⟩
    refine cond_s h ?_ ?_ <;> clear h <;> intro hc h
    · replace hS := hS.none (α := Nat) (enc := (Value.float .f64)) (t := N.t_float64)
      have h := some_inj h
      cases h
      exact hK _ _ _ _ _ rfl (hS.pick (A := [_, _]) [0] rfl)
    · replace h := bnd h
      obtain ⟨t4, ht4, h⟩ := h
      refine wk_slices_Clone___float64_float64 H hS (hq1.mono tl1) ht4 ?_; clear hS ht4; rintro a2 m2 c2 ws2 w rfl hS
      refine ⟨_, _, _, rfl, ?_⟩
      refine ⟨_, _, _, (hS.cel mp1 rfl), ?_⟩
      replace h := bnd h
      obtain ⟨t5, ht5, h⟩ := h
      obtain rfl := lenF ht5 ((hq0_2.mono tl2).now (fun _ h => h) hS)
      clear ht5
      replace h := bnd h
      obtain ⟨o4, h4, c4⟩ := h
      refine cutM_i (fun s w => ∃ (ws3 : List Nat), (List.map nf ws3) = o4 ∧ s = (()) ∧ Ho w0 w ((sl a2 m2 c2 (List.map (Value.float .f64) ws3) N.t_float64) :: (cl r1 [.int .i64 q0_0, .slice q0_1 q0_1l q0_1c, .slice q0_2 q0_2l q0_2c] N.t_Factor) :: L)) (fun J4 hJ4 => ?_) ?_
      · have h := h4
        clear h4
        refine iter_sim (fun s w t => ∃ (t7 : Int) (ws5 : List Nat), (t7, (List.map nf ws5)) = t ∧ s = (t7, ()) ∧ Ho w0 w ((sl a2 m2 c2 (List.map (Value.float .f64) ws5) N.t_float64) :: (cl r1 [.int .i64 q0_0, .slice q0_1 q0_1l q0_1c, .slice q0_2 q0_2l q0_2c] N.t_Factor) :: L)) ?_ h ⟨_, _, rfl, rfl, hS⟩
        clear h hS
        rintro s w t X q ⟨t7, ws5, rfl, rfl, hS⟩ h hX hO
        unfold T_solve_Back_b2 at h
        try dsimp only
        refine cond_s h ?_ ?_ <;> clear h <;> intro hc h
        · replace h := bnd h
          obtain ⟨t9, ht9, h⟩ := h
          obtain ⟨z6, rfl, q7x, q7l, q7r⟩ := atF ht9
          clear ht9
          refine idx_s ((hq0_2.mono tl2).now (fun _ h => h) hS) q7x q7l q7r ?_; intro b8 hb8
          refine ⟨_, rd_get ((hq0_2.mono tl2).now (fun _ h => h) hS) hb8 q7x, ?_⟩
          replace h := bnd h
          obtain ⟨t10, ht10, h⟩ := h
          obtain ⟨z9, rfl, q10x, q10l, q10r⟩ := atF ht10
          clear ht10
          refine idx_s ((Ent.sl mp0).now (fun _ h => h) hS) q10x q10l q10r ?_; intro b11 hb11
          refine ⟨_, rd_get ((Ent.sl mp0).now (fun _ h => h) hS) hb11 q10x, ?_⟩
          replace h := bnd h
          obtain ⟨t11, ht11, h⟩ := h
          refine fdiv_s ht11 hS ?_; clear hS ht11; rintro z12 w rfl hS
          replace h := bnd h
          obtain ⟨t12, ht12, h⟩ := h
          obtain ⟨z13, rfl, q14x, q14l, q14r⟩ := atF ht12
          clear ht12
          refine idx_s ((Ent.sl mp0).now (fun _ h => h) hS) q14x q14l q14r ?_; intro b15 hb15
          replace h := bnd h
          obtain ⟨t13, ht13, h⟩ := h
          obtain rfl := setF ht13
          clear ht13
          refine sto_s hS hb15 q14r ?_; clear hS; intro w hS
          obtain rfl := some_inj h
          exact hX _ rfl _ _ ⟨_, _, rfl, rfl, hS⟩
        · obtain rfl := some_inj h
          have h := congrArg some (hO _ rfl)
          obtain rfl := some_inj h
          exact hJ4 _ _ ⟨_, rfl, rfl, hS⟩
      · clear h4 hS
        rintro s w ⟨ws3, rfl, rfl, hS⟩
        have h := c4
        clear c4
        try dsimp only
        replace h := bnd h
        obtain ⟨t14, ht14, h⟩ := h
        obtain rfl := lenF ht14 ((Ent.sl mp0).now (fun _ h => h) hS)
        clear ht14
        replace h := bnd h
        obtain ⟨o17, h17, c17⟩ := h
        refine cutM_i (fun s w => ∃ (ws16 : List Nat), (List.map nf ws16) = o17 ∧ s = (()) ∧ Ho w0 w ((sl a2 m2 c2 (List.map (Value.float .f64) ws16) N.t_float64) :: L)) (fun J17 hJ17 => ?_) ?_
        · have h := h17
          clear h17
          refine iter_sim (fun s w t => ∃ (t16 : Int) (ws18 : List Nat), (t16, (List.map nf ws18)) = t ∧ s = (t16, ()) ∧ Ho w0 w ((sl a2 m2 c2 (List.map (Value.float .f64) ws18) N.t_float64) :: (cl r1 [.int .i64 q0_0, .slice q0_1 q0_1l q0_1c, .slice q0_2 q0_2l q0_2c] N.t_Factor) :: L)) ?_ h ⟨_, _, rfl, rfl, hS⟩
          clear h hS
          rintro s w t X q ⟨t16, ws18, rfl, rfl, hS⟩ h hX hO
          unfold T_solve_Back_b9 at h
          try dsimp only
          refine cond_s h ?_ ?_ <;> clear h <;> intro hc h
          · replace h := bnd h
            obtain ⟨t18, ht18, h⟩ := h
            obtain rfl := lenF ht18 ((Ent.sl mp0).now (fun _ h => h) hS)
            clear ht18
            replace h := bnd h
            obtain ⟨o20, h20, c20⟩ := h
            refine cutM_i (fun s w => ∃ (ws19 : List Nat), (List.map nf ws19) = o20 ∧ s = (()) ∧ Ho w0 w ((sl a2 m2 c2 (List.map (Value.float .f64) ws19) N.t_float64) :: (cl r1 [.int .i64 q0_0, .slice q0_1 q0_1l q0_1c, .slice q0_2 q0_2l q0_2c] N.t_Factor) :: L)) (fun J20 hJ20 => ?_) ?_
            · have h := h20
              clear h20
              refine iter_sim (fun s w t => ∃ (t20 : Int) (ws21 : List Nat), (t20, (List.map nf ws21)) = t ∧ s = (t20, ()) ∧ Ho w0 w ((sl a2 m2 c2 (List.map (Value.float .f64) ws21) N.t_float64) :: (cl r1 [.int .i64 q0_0, .slice q0_1 q0_1l q0_1c, .slice q0_2 q0_2l q0_2c] N.t_Factor) :: L)) ?_ h ⟨_, _, rfl, rfl, hS⟩
              clear h hS
              rintro s w t X q ⟨t20, ws21, rfl, rfl, hS⟩ h hX hO
              unfold T_solve_Back_b11 at h
              try dsimp only
              replace h := bnd h
              obtain ⟨t22, ht22, h⟩ := h
              obtain rfl := lenF ht22 ((Ent.sl mp0).now (fun _ h => h) hS)
              clear ht22
              refine cond_s h ?_ ?_ <;> clear h <;> intro hc h
              · replace h := bnd h
                obtain ⟨t23, ht23, h⟩ := h
                obtain ⟨z22, rfl, q23x, q23l, q23r⟩ := atF ht23
                clear ht23
                refine idx_s ((Ent.sl mp0).now (fun _ h => h) hS) q23x q23l q23r ?_; intro b24 hb24
                refine ⟨_, rd_get ((Ent.sl mp0).now (fun _ h => h) hS) hb24 q23x, ?_⟩
                refine ⟨_, (hS.cel mp1 rfl), ?_⟩
                refine ⟨_, _, _, (hS.cel mp1 rfl), ?_⟩
                refine ⟨_, _, _, (hS.cel mp1 rfl), ?_⟩
                replace h := bnd h
                obtain ⟨t24, ht24, h⟩ := h
                obtain ⟨z25, rfl, q26x, q26l, q26r⟩ := atF ht24
                clear ht24
                refine idx_s ((Ent.sl mp0).now (fun _ h => h) hS) q26x q26l q26r ?_; intro b27 hb27
                refine ⟨_, rd_get ((Ent.sl mp0).now (fun _ h => h) hS) hb27 q26x, ?_⟩
                refine drM_s hS ?_; clear hS; intro w hS
                replace h := bnd h
                obtain ⟨t25, ht25, h⟩ := h
                refine wk_solve_below H hS (hq0_1.mono tl2) (hq0_2.mono tl2) ht25 ?_; clear hS ht25; rintro z28 w rfl hS
                refine ⟨_, rfl, ?_⟩
                refine ⟨rd_get ((Ent.sl mp0).now (fun _ h => h) hS) hb27 q26x, ?_⟩
                refine ⟨rd_get ((Ent.sl mp0).now (fun _ h => h) hS) hb24 q23x, ?_⟩
                replace h := bnd h
                obtain ⟨t26, ht26, h⟩ := h
                refine fmul_s ht26 hS ?_; clear ht26; rintro z29 _ rfl _
                replace h := bnd h
                obtain ⟨t27, ht27, h⟩ := h
                refine fsub_s ht27 hS ?_; clear ht27; rintro z30 _ rfl _
                replace h := bnd h
                obtain ⟨t28, ht28, h⟩ := h
                obtain ⟨z31, rfl, q32x, q32l, q32r⟩ := atF ht28
                clear ht28
                refine idx_s ((Ent.sl mp0).now (fun _ h => h) hS) q32x q32l q32r ?_; intro b33 hb33
                refine drM_s hS ?_; clear hS; intro w hS
                replace h := bnd h
                obtain ⟨t29, ht29, h⟩ := h
                obtain rfl := setF ht29
                clear ht29
                refine sto_s hS hb33 q32r ?_; clear hS; intro w hS
                refine drM_s hS ?_; clear hS; intro w hS
                obtain rfl := some_inj h
                exact hX _ rfl _ _ ⟨_, _, rfl, rfl, hS⟩
              · obtain rfl := some_inj h
                have h := congrArg some (hO _ rfl)
                obtain rfl := some_inj h
                exact hJ20 _ _ ⟨_, rfl, rfl, hS⟩
            · clear h20 hS
              rintro s w ⟨ws19, rfl, rfl, hS⟩
              have h := c20
              clear c20
              try dsimp only
              obtain rfl := some_inj h
              exact hX _ rfl _ _ ⟨_, _, rfl, rfl, hS⟩
          · obtain rfl := some_inj h
            have h := congrArg some (hO _ rfl)
            obtain rfl := some_inj h
            exact hJ17 _ _ ⟨_, rfl, rfl, (hS.pick (A := [_, _]) [0] rfl)⟩
        · clear h17 hS
          rintro s w ⟨ws16, rfl, rfl, hS⟩
          have h := c17
          clear c17
          try dsimp only
          have h := some_inj h
          cases h
          exact hK _ _ _ _ _ rfl hS

theorem wk_girderref13_zero {N : Nums} {P : Program} (H : AllOk N P) {w0 w : World} {L : List It} {q0_0 : Int} {q0_1 : Option Addr} {q0_1l q0_1c : Nat} {ws0_1 : List Nat} {q0_2 : Option Addr} {q0_2l q0_2c : Nat} {ws0_2 : List Nat} {u0 : Bool} (hS : Ho w0 w L) (hq0_1 : Ent L (rdA (List.map (Value.float .f64) ws0_1) q0_1 q0_1l q0_1c)) (hq0_2 : Ent L (rdA (List.map (Value.float .f64) ws0_2) q0_2 q0_2l q0_2c)) (hx : T_girderref13_zero q0_0 (List.map nf ws0_1) (List.map nf ws0_2) = some u0) {K : Value → World → Prop} (hK : ∀  (w1 : World), Ho w0 w1 (L) → K (.bool u0) w1) : CallsX P N.f_girderref13_zero #[.agg #[.int .i64 q0_0, .slice q0_1 q0_1l q0_1c, .slice q0_2 q0_2l q0_2c]] w K := by
  refine H.girderref13_zero q0_0 q0_1 q0_1l q0_1c q0_2 q0_2l q0_2c w _ ?_
  unfold S_girderref13_zero
  unfold T_girderref13_zero at hx
  have h := hx
  clear hx
  try dsimp only
  refine newM_s hS ?_; clear hS; intro r1 w hS
  replace h := bnd h
  obtain ⟨o2, h2, c2⟩ := h
  refine cutM_i (fun s w =>  .inl () = o2 ∧ s = (()) ∧ Ho w0 w (L)) (fun J2 hJ2 => ?_) ?_
  · have h := h2
    clear h2
    refine iter_sim (fun s w t => ∃ (t1 : Int), t1 = t ∧ s = (t1, ()) ∧ Ho w0 w ((cl r1 [.int .i64 q0_0, .slice q0_1 q0_1l q0_1c, .slice q0_2 q0_2l q0_2c] N.t_Factor) :: L)) ?_ h ⟨_, rfl, rfl, hS⟩
    clear h hS
    rintro s w t X q ⟨t1, rfl, rfl, hS⟩ h hX hO
    unfold T_girderref13_zero_b2 at h
    try dsimp only
    refine ⟨_, _, _, (hS.cel mp0 rfl), ?_⟩
    replace h := bnd h
    obtain ⟨t2, ht2, h⟩ := h
    obtain rfl := lenF ht2 ((hq0_2.mono tl1).now (fun _ h => h) hS)
    clear ht2
    refine cond_s h ?_ ?_ <;> clear h <;> intro hc h
    · refine ⟨_, _, _, (hS.cel mp0 rfl), ?_⟩
      replace h := bnd h
      obtain ⟨t3, ht3, h⟩ := h
      obtain ⟨z3, rfl, q4x, q4l, q4r⟩ := atF ht3
      clear ht3
      refine idx_s ((hq0_2.mono tl1).now (fun _ h => h) hS) q4x q4l q4r ?_; intro b5 hb5
      refine ⟨_, rd_get ((hq0_2.mono tl1).now (fun _ h => h) hS) hb5 q4x, ?_⟩
      replace h := bnd h
      obtain ⟨t4, ht4, h⟩ := h
      obtain rfl := feq_s ht4
      clear ht4
      refine cond_s h ?_ ?_ <;> clear h <;> intro hc h
      · obtain rfl := some_inj h
        have h := congrArg some (hO _ rfl)
        obtain rfl := some_inj h
        have h := c2
        have h := some_inj h
        cases h
        exact hK _ (hS.pick (A := [_]) [] rfl)
      · obtain rfl := some_inj h
        exact hX _ rfl _ _ ⟨_, rfl, rfl, hS⟩
    · obtain rfl := some_inj h
      have h := congrArg some (hO _ rfl)
      obtain rfl := some_inj h
      exact hJ2 _ _ ⟨rfl, rfl, (hS.pick (A := [_]) [] rfl)⟩
  · clear h2 hS
    rintro s w ⟨rfl, rfl, hS⟩
    have h := c2
    clear c2
    try dsimp only
    have h := some_inj h
    cases h
    exact hK _ hS

theorem wk_girderref13_Back {N : Nums} {P : Program} (H : AllOk N P) {w0 w : World} {L : List It} {q0_0 : Int} {q0_1 : Option Addr} {q0_1l q0_1c : Nat} {ws0_1 : List Nat} {q0_2 : Option Addr} {q0_2l q0_2c : Nat} {ws0_2 : List Nat} {q1 : Option Addr} {q1l q1c : Nat} {ws1 : List Nat} {u0 : List Nat} {u1 : Int} (hS : Ho w0 w L) (hq0_1 : Ent L (rdA (List.map (Value.float .f64) ws0_1) q0_1 q0_1l q0_1c)) (hq0_2 : Ent L (rdA (List.map (Value.float .f64) ws0_2) q0_2 q0_2l q0_2c)) (hq1 : Ent L (rdA (List.map (Value.float .f64) ws1) q1 q1l q1c)) (hx : T_girderref13_Back q0_0 (List.map nf ws0_1) (List.map nf ws0_2) (List.map nf ws1) = some (u0, u1)) {K : Value → World → Prop} (hK : ∀ (a0 : Option Addr) (n0 c0 : Nat) (rws0 : List Nat) (w1 : World), List.map nf rws0 = u0 → Ho w0 w1 ((sl a0 n0 c0 (List.map (Value.float .f64) rws0) N.t_float64) :: L) → K (.tuple #[.slice a0 n0 c0, .int .i64 u1]) w1) : CallsX P N.f_girderref13_Back #[.agg #[.int .i64 q0_0, .slice q0_1 q0_1l q0_1c, .slice q0_2 q0_2l q0_2c], .slice q1 q1l q1c] w K := by
  refine H.girderref13_Back q0_0 q0_1 q0_1l q0_1c q0_2 q0_2l q0_2c q1 q1l q1c w _ ?_
  unfold S_girderref13_Back
  unfold T_girderref13_Back at hx
  have h := hx
  clear hx
  try dsimp only
  refine newM_s hS ?_; clear hS; intro r1 w hS
  replace h := bnd h
  obtain ⟨o2, h2, c2⟩ := h
  refine cutM_i (fun s w => ∃ (t1 : Bool), t1 = o2 ∧ s = (t1, ()) ∧ Ho w0 w ((cl r1 [.int .i64 q0_0, .slice q0_1 q0_1l q0_1c, .slice q0_2 q0_2l q0_2c] N.t_Factor) :: L)) (fun J2 hJ2 => ?_) ?_
  · have h := h2
    clear h2
    refine ⟨_, (hS.cel mp0 rfl), ?_⟩
    refine ⟨_, _, _, (hS.cel mp0 rfl), ?_⟩
    refine ⟨_, _, _, (hS.cel mp0 rfl), ?_⟩
    replace h := bnd h
    obtain ⟨t2, ht2, h⟩ := h
    refine wk_girderref13_Right H hS (hq0_1.mono tl1) (hq0_2.mono tl1) ht2 ?_; clear hS ht2; rintro w hS
    refine ⟨_, rfl, ?_⟩
    refine cond_s h ?_ ?_ <;> clear h <;> intro hc h
    · replace h := bnd h
      obtain ⟨t3, ht3, h⟩ := h
      obtain rfl := lenF ht3 ((hq1.mono tl1).now (fun _ h => h) hS)
      clear ht3
      refine ⟨_, (hS.cel mp0 rfl), ?_⟩
      obtain rfl := some_inj h
      exact hJ2 _ _ ⟨_, rfl, rfl, hS⟩
    · obtain rfl := some_inj h
      exact hJ2 _ _ ⟨_, rfl, rfl, hS⟩
  · clear h2 hS
    rintro s w ⟨t1, rfl, rfl, hS⟩
    have h := c2
    clear c2
    try dsimp only
    refine cond_s h ?_ ?_ <;> clear h <;> intro hc h
    · replace hS := hS.none (α := Nat) (enc := (Value.float .f64)) (t := N.t_float64)
      have h := some_inj h
      cases h
      exact hK _ _ _ _ _ rfl (hS.pick (A := [_, _]) [0] rfl)
    · refine ⟨_, (hS.cel mp0 rfl), ?_⟩
      refine ⟨_, _, _, (hS.cel mp0 rfl), ?_⟩
      refine ⟨_, _, _, (hS.cel mp0 rfl), ?_⟩
      replace h := bnd h
      obtain ⟨t4, ht4, h⟩ := h
      refine wk_girderref13_zero H hS (hq0_1.mono tl1) (hq0_2.mono tl1) ht4 ?_; clear hS ht4; rintro w hS
      refine ⟨_, rfl, ?_⟩
      refine cond_s h ?_ ?_ <;> clear h <;> intro hc h
      · replace hS := hS.none (α := Nat) (enc := (Value.float .f64)) (t := N.t_float64)
        have h := some_inj h
        cases h
        exact hK _ _ _ _ _ rfl (hS.pick (A := [_, _]) [0] rfl)
      · refine ⟨_, (hS.cel mp0 rfl), ?_⟩
        replace h := bnd h
        obtain ⟨t5, ht5, h⟩ := h
        obtain ⟨rfl, kt5⟩ := mkF ht5
        clear ht5
        refine mk_s (enc := (Value.float .f64)) hS kt5 rfl ?_; clear hS kt5; intro r3 w hS
        refine ⟨_, (hS.cel mp1 rfl), ?_⟩
        replace h := bnd h
        obtain ⟨o5, h5, c5⟩ := h
        refine cutM_i (fun s w => ∃ (ws4 : List Nat), (List.map nf ws4) = o5 ∧ s = (()) ∧ Ho w0 w ((sl (some ⟨r3, 0, none⟩) ((q0_0).toNat) ((q0_0).toNat) (List.map (Value.float .f64) ws4) N.t_float64) :: L)) (fun J5 hJ5 => ?_) ?_
        · have h := h5
          clear h5
          refine iter_sim (fun s w t => ∃ (t7 : Int) (ws6 : List Nat), (t7, (List.map nf ws6)) = t ∧ s = (t7, ()) ∧ Ho w0 w ((sl (some ⟨r3, 0, none⟩) ((q0_0).toNat) ((q0_0).toNat) (List.map (Value.float .f64) ws6) N.t_float64) :: (cl r1 [.int .i64 q0_0, .slice q0_1 q0_1l q0_1c, .slice q0_2 q0_2l q0_2c] N.t_Factor) :: L)) ?_ h ⟨_, _, rfl, rfl, hS⟩
          clear h hS
          rintro s w t X q ⟨t7, ws6, rfl, rfl, hS⟩ h hX hO
          unfold T_girderref13_Back_b7 at h
          try dsimp only
          refine cond_s h ?_ ?_ <;> clear h <;> intro hc h
          · replace h := bnd h
            obtain ⟨t9, ht9, h⟩ := h
            obtain ⟨z7, rfl, q8x, q8l, q8r⟩ := atF ht9
            clear ht9
            refine idx_s ((hq1.mono tl2).now (fun _ h => h) hS) q8x q8l q8r ?_; intro b9 hb9
            refine ⟨_, rd_get ((hq1.mono tl2).now (fun _ h => h) hS) hb9 q8x, ?_⟩
            refine ⟨_, _, _, (hS.cel mp1 rfl), ?_⟩
            replace h := bnd h
            obtain ⟨t10, ht10, h⟩ := h
            obtain ⟨z10, rfl, q11x, q11l, q11r⟩ := atF ht10
            clear ht10
            refine idx_s ((hq0_2.mono tl2).now (fun _ h => h) hS) q11x q11l q11r ?_; intro b12 hb12
            refine ⟨_, rd_get ((hq0_2.mono tl2).now (fun _ h => h) hS) hb12 q11x, ?_⟩
            replace h := bnd h
            obtain ⟨t11, ht11, h⟩ := h
            refine fdiv_s ht11 hS ?_; clear ht11; rintro z13 _ rfl _
            refine drM_s hS ?_; clear hS; intro w hS
            replace h := bnd h
            obtain ⟨o15, h15, c15⟩ := h
            refine cutM_i (fun s w => ∃ (z14 : Nat), (nf z14) = o15 ∧ s = (z14, ()) ∧ Ho w0 w ((sl (some ⟨r3, 0, none⟩) ((q0_0).toNat) ((q0_0).toNat) (List.map (Value.float .f64) ws6) N.t_float64) :: (cl r1 [.int .i64 q0_0, .slice q0_1 q0_1l q0_1c, .slice q0_2 q0_2l q0_2c] N.t_Factor) :: L)) (fun J15 hJ15 => ?_) ?_
            · have h := h15
              clear h15
              refine iter_sim (fun s w t => ∃ (z16 : Nat) (t14 : Int), ((nf z16), t14) = t ∧ s = (z16, t14, ()) ∧ Ho w0 w ((sl (some ⟨r3, 0, none⟩) ((q0_0).toNat) ((q0_0).toNat) (List.map (Value.float .f64) ws6) N.t_float64) :: (cl r1 [.int .i64 q0_0, .slice q0_1 q0_1l q0_1c, .slice q0_2 q0_2l q0_2c] N.t_Factor) :: L)) ?_ h ⟨_, _, rfl, rfl, hS⟩
              clear h hS
              rintro s w t X q ⟨z16, t14, rfl, rfl, hS⟩ h hX hO
              unfold T_girderref13_Back_b9 at h
              try dsimp only
              refine ⟨_, (hS.cel mp1 rfl), ?_⟩
              refine cond_s h ?_ ?_ <;> clear h <;> intro hc h
              · refine ⟨_, (hS.cel mp1 rfl), ?_⟩
                refine ⟨_, _, _, (hS.cel mp1 rfl), ?_⟩
                refine ⟨_, _, _, (hS.cel mp1 rfl), ?_⟩
                replace h := bnd h
                obtain ⟨t15, ht15, h⟩ := h
                obtain ⟨z17, rfl, q18x, q18l, q18r⟩ := atF ht15
                clear ht15
                refine idy_s ((Ent.sl mp0).now (fun _ h => h) hS) q18x q18l q18r ?_
                refine ⟨_, rd_get ((Ent.sl mp0).now (fun _ h => h) hS) rfl q18x, ?_⟩
                refine drM_s hS ?_; clear hS; intro w hS
                replace h := bnd h
                obtain ⟨t16, ht16, h⟩ := h
                refine wk_girderref13_at H hS (hq0_1.mono tl2) (hq0_2.mono tl2) ht16 ?_; clear hS ht16; rintro z20 w rfl hS
                refine ⟨_, rfl, ?_⟩
                refine ⟨rd_get ((Ent.sl mp0).now (fun _ h => h) hS) rfl q18x, ?_⟩
                replace h := bnd h
                obtain ⟨t17, ht17, h⟩ := h
                refine fmul_s ht17 hS ?_; clear ht17; rintro z21 _ rfl _
                refine drM_s hS ?_; clear hS; intro w hS
                replace h := bnd h
                obtain ⟨t18, ht18, h⟩ := h
                refine fsub_s ht18 hS ?_; clear hS ht18; rintro z22 w rfl hS
                obtain rfl := some_inj h
                exact hX _ rfl _ _ ⟨_, _, rfl, rfl, hS⟩
              · obtain rfl := some_inj h
                have h := congrArg some (hO _ rfl)
                obtain rfl := some_inj h
                exact hJ15 _ _ ⟨_, rfl, rfl, hS⟩
            · clear h15 hS
              rintro s w ⟨z14, rfl, rfl, hS⟩
              have h := c15
              clear c15
              try dsimp only
              replace h := bnd h
              obtain ⟨t19, ht19, h⟩ := h
              obtain ⟨z23, rfl, q24x, q24l, q24r⟩ := atF ht19
              clear ht19
              refine idy_s ((Ent.sl mp0).now (fun _ h => h) hS) q24x q24l q24r ?_
              replace h := bnd h
              obtain ⟨t20, ht20, h⟩ := h
              obtain rfl := setF ht20
              clear ht20
              refine sto_s hS rfl q24r ?_; clear hS; intro w hS
              obtain rfl := some_inj h
              exact hX _ rfl _ _ ⟨_, _, rfl, rfl, hS⟩
          · obtain rfl := some_inj h
            have h := congrArg some (hO _ rfl)
            obtain rfl := some_inj h
            exact hJ5 _ _ ⟨_, rfl, rfl, (hS.pick (A := [_, _]) [0] rfl)⟩
        · clear h5 hS
          rintro s w ⟨ws4, rfl, rfl, hS⟩
          have h := c5
          clear c5
          try dsimp only
          have h := some_inj h
          cases h
          exact hK _ _ _ _ _ rfl hS

theorem wk_solve_Solve {N : Nums} {P : Program} (H : AllOk N P) {w0 w : World} {L : List It} {q0_0 : Int} {q0_1 : Option Addr} {q0_1l q0_1c : Nat} {ws0_1 : List Nat} {q0_2 : Option Addr} {q0_2l q0_2c : Nat} {ws0_2 : List Nat} {q1 : Option Addr} {q1l q1c : Nat} {ws1 : List Nat} {u0 : List Nat} {u1 : Int} (hS : Ho w0 w L) (hq0_1 : Ent L (rdA (List.map (Value.float .f64) ws0_1) q0_1 q0_1l q0_1c)) (hq0_2 : Ent L (rdA (List.map (Value.float .f64) ws0_2) q0_2 q0_2l q0_2c)) (hq1 : Ent L (rdA (List.map (Value.float .f64) ws1) q1 q1l q1c)) (hx : T_solve_Solve q0_0 (List.map nf ws0_1) (List.map nf ws0_2) (List.map nf ws1) = some (u0, u1)) {K : Value → World → Prop} (hK : ∀ (a0 : Option Addr) (n0 c0 : Nat) (rws0 : List Nat) (w1 : World), List.map nf rws0 = u0 → Ho w0 w1 ((sl a0 n0 c0 (List.map (Value.float .f64) rws0) N.t_float64) :: L) → K (.tuple #[.slice a0 n0 c0, .int .i64 u1]) w1) : CallsX P N.f_solve_Solve #[.agg #[.int .i64 q0_0, .slice q0_1 q0_1l q0_1c, .slice q0_2 q0_2l q0_2c], .slice q1 q1l q1c] w K := by
  refine H.solve_Solve q0_0 q0_1 q0_1l q0_1c q0_2 q0_2l q0_2c q1 q1l q1c w _ ?_
  unfold S_solve_Solve
  unfold T_solve_Solve at hx
  have h := hx
  clear hx
  try dsimp only
  refine newM_s hS ?_; clear hS; intro r1 w hS
  refine ⟨_, (hS.cel mp0 rfl), ?_⟩
  refine ⟨_, _, _, (hS.cel mp0 rfl), ?_⟩
  refine ⟨_, _, _, (hS.cel mp0 rfl), ?_⟩
  replace h := bnd h
  obtain ⟨⟨t1, t2⟩, ho1, h⟩ := h
  refine wk_solve_Forward H hS (hq0_1.mono tl1) (hq0_2.mono tl1) (hq1.mono tl1) ho1 ?_; clear hS ho1; rintro a2 m2 c2 ws2 w rfl hS
  refine ⟨_, _, _, _, rfl, ?_⟩
  refine cond_s h ?_ ?_ <;> clear h <;> intro hc h
  · replace hS := hS.none (α := Nat) (enc := (Value.float .f64)) (t := N.t_float64)
    have h := some_inj h
    cases h
    exact hK _ _ _ _ _ rfl (hS.pick (A := [_, _, _]) [0] rfl)
  · refine ⟨_, (hS.cel mp1 rfl), ?_⟩
    refine ⟨_, _, _, (hS.cel mp1 rfl), ?_⟩
    refine ⟨_, _, _, (hS.cel mp1 rfl), ?_⟩
    replace h := bnd h
    obtain ⟨⟨t3, t4⟩, ho3, h⟩ := h
    refine wk_solve_Back H hS (hq0_1.mono tl2) (hq0_2.mono tl2) (Ent.sl mp0) ho3 ?_; clear hS ho3; rintro a3 m3 c3 ws3 w rfl hS
    refine ⟨_, _, _, _, rfl, ?_⟩
    have h := some_inj h
    cases h
    exact hK _ _ _ _ _ rfl (hS.pick (A := [_, _, _]) [0] rfl)

theorem wk_girderref13_Solve {N : Nums} {P : Program} (H : AllOk N P) {w0 w : World} {L : List It} {q0_0 : Int} {q0_1 : Option Addr} {q0_1l q0_1c : Nat} {ws0_1 : List Nat} {q0_2 : Option Addr} {q0_2l q0_2c : Nat} {ws0_2 : List Nat} {q1 : Option Addr} {q1l q1c : Nat} {ws1 : List Nat} {u0 : List Nat} {u1 : Int} (hS : Ho w0 w L) (hq0_1 : Ent L (rdA (List.map (Value.float .f64) ws0_1) q0_1 q0_1l q0_1c)) (hq0_2 : Ent L (rdA (List.map (Value.float .f64) ws0_2) q0_2 q0_2l q0_2c)) (hq1 : Ent L (rdA (List.map (Value.float .f64) ws1) q1 q1l q1c)) (hx : T_girderref13_Solve q0_0 (List.map nf ws0_1) (List.map nf ws0_2) (List.map nf ws1) = some (u0, u1)) {K : Value → World → Prop} (hK : ∀ (a0 : Option Addr) (n0 c0 : Nat) (rws0 : List Nat) (w1 : World), List.map nf rws0 = u0 → Ho w0 w1 ((sl a0 n0 c0 (List.map (Value.float .f64) rws0) N.t_float64) :: L) → K (.tuple #[.slice a0 n0 c0, .int .i64 u1]) w1) : CallsX P N.f_girderref13_Solve #[.agg #[.int .i64 q0_0, .slice q0_1 q0_1l q0_1c, .slice q0_2 q0_2l q0_2c], .slice q1 q1l q1c] w K := by
  refine H.girderref13_Solve q0_0 q0_1 q0_1l q0_1c q0_2 q0_2l q0_2c q1 q1l q1c w _ ?_
  unfold S_girderref13_Solve
  unfold T_girderref13_Solve at hx
  have h := hx
  clear hx
  try dsimp only
  refine newM_s hS ?_; clear hS; intro r1 w hS
  refine ⟨_, (hS.cel mp0 rfl), ?_⟩
  refine ⟨_, _, _, (hS.cel mp0 rfl), ?_⟩
  refine ⟨_, _, _, (hS.cel mp0 rfl), ?_⟩
  replace h := bnd h
  obtain ⟨⟨t1, t2⟩, ho1, h⟩ := h
  refine wk_girderref13_Forward H hS (hq0_1.mono tl1) (hq0_2.mono tl1) (hq1.mono tl1) ho1 ?_; clear hS ho1; rintro a2 m2 c2 ws2 w rfl hS
  refine ⟨_, _, _, _, rfl, ?_⟩
  refine cond_s h ?_ ?_ <;> clear h <;> intro hc h
  · replace hS := hS.none (α := Nat) (enc := (Value.float .f64)) (t := N.t_float64)
    have h := some_inj h
    cases h
    exact hK _ _ _ _ _ rfl (hS.pick (A := [_, _, _]) [0] rfl)
  · refine ⟨_, (hS.cel mp1 rfl), ?_⟩
    refine ⟨_, _, _, (hS.cel mp1 rfl), ?_⟩
    refine ⟨_, _, _, (hS.cel mp1 rfl), ?_⟩
    replace h := bnd h
    obtain ⟨⟨t3, t4⟩, ho3, h⟩ := h
    refine wk_girderref13_Back H hS (hq0_1.mono tl2) (hq0_2.mono tl2) (Ent.sl mp0) ho3 ?_; clear hS ho3; rintro a3 m3 c3 ws3 w rfl hS
    refine ⟨_, _, _, _, rfl, ?_⟩
    have h := some_inj h
    cases h
    exact hK _ _ _ _ _ rfl (hS.pick (A := [_, _, _]) [0] rfl)

theorem wk_matrix_fits {N : Nums} {P : Program} (H : AllOk N P) {w0 w : World} {L : List It} {q0 : Int} {u0 : Bool} (hS : Ho w0 w L)  (hx : T_matrix_fits q0 = some u0) {K : Value → World → Prop} (hK : ∀  (w1 : World), Ho w0 w1 (L) → K (.bool u0) w1) : CallsX P N.f_matrix_fits #[.int .i64 q0] w K := by
  refine H.matrix_fits q0 w _ ?_
  unfold S_matrix_fits
  unfold T_matrix_fits at hx
  have h := hx
  clear hx
  try dsimp only
  refine cond_s h ?_ ?_ <;> clear h <;> intro hc h
  · have h := some_inj h
    cases h
    exact hK _ hS
  · have h := some_inj h
    cases h
    exact hK _ hS

theorem wk_matrix_laid {N : Nums} {P : Program} (H : AllOk N P) {w0 w : World} {L : List It} {q0 : Int} {q1 : Int} {q2 : Value} {f2 : Int → Int → Option Nat} {u0 : Int} {u1 : Int} {u2 : List Nat} (hS : Ho w0 w L) (hf2 : ∀ (v0 : Int) (v1 : Int) (w : World) (L1 : List It) (r1 : Nat) (K : Value → World → Prop), (∀ e, e ∈ L → e ∈ L1) → f2 v0 v1 = some r1 → Ho w0 w L1 → (∀ (z : Nat) (w1 : World), nf z = r1 → Ho w0 w1 L1 → K (.float .f64 z) w1) → fnM q2 fun g gp gq => CallsX P g (gp.toList ++ (([.int .i64 v0, .int .i64 v1] : List Value) ++ gq.toList)).toArray w K) (hx : T_matrix_laid q0 q1 f2 = some (u0, u1, u2)) {K : Value → World → Prop} (hK : ∀ (a2 : Option Addr) (n2 c2 : Nat) (rws2 : List Nat) (w1 : World), List.map nf rws2 = u2 → Ho w0 w1 ((sl a2 n2 c2 (List.map (Value.float .f64) rws2) N.t_float64) :: L) → K (.agg #[.int .i64 u0, .int .i64 u1, .slice a2 n2 c2]) w1) : CallsX P N.f_matrix_laid #[.int .i64 q0, .int .i64 q1, q2] w K := by
  refine H.matrix_laid q0 q1 q2 w _ ?_
  unfold S_matrix_laid
  unfold T_matrix_laid at hx
  have h := hx
  clear hx
  try dsimp only
  refine newM_s hS ?_; clear hS; intro r1 w hS
  replace h := bnd h
  obtain ⟨t1, ht1, h⟩ := h
  obtain ⟨rfl, kt1⟩ := mkF ht1
  clear ht1
  refine mk_s (enc := (Value.float .f64)) hS kt1 rfl ?_; clear hS kt1; intro r2 w hS
  refine newM_s hS ?_; clear hS; intro r3 w hS
  refine stc_s hS rfl rfl ?_; clear hS; intro w hS
  refine stc_s hS rfl rfl ?_; clear hS; intro w hS
  refine stc_s hS rfl rfl ?_; clear hS; intro w hS
  replace h := bnd h
  obtain ⟨o5, h5, c5⟩ := h
  refine cutM_i (fun s w => ∃ (ws4 : List Nat), (List.map nf ws4) = o5 ∧ s = (()) ∧ Ho w0 w ((cl r3 [.int .i64 q0, .int .i64 q1, .slice (some ⟨r2, 0, none⟩) (((IntKind.i64.wrap (q0 * q1))).toNat) (((IntKind.i64.wrap (q0 * q1))).toNat)] N.t_Matrix) :: (sl (some ⟨r2, 0, none⟩) (((IntKind.i64.wrap (q0 * q1))).toNat) (((IntKind.i64.wrap (q0 * q1))).toNat) (List.map (Value.float .f64) ws4) N.t_float64) :: (cl r1 [.int .i64 0, .int .i64 0, .slice none 0 0] N.t_Matrix) :: L)) (fun J5 hJ5 => ?_) ?_
  · have h := h5
    clear h5
    refine iter_sim (fun s w t => ∃ (t3 : Int) (ws6 : List Nat), (t3, (List.map nf ws6)) = t ∧ s = (t3, ()) ∧ Ho w0 w ((cl r3 [.int .i64 q0, .int .i64 q1, .slice (some ⟨r2, 0, none⟩) (((IntKind.i64.wrap (q0 * q1))).toNat) (((IntKind.i64.wrap (q0 * q1))).toNat)] N.t_Matrix) :: (sl (some ⟨r2, 0, none⟩) (((IntKind.i64.wrap (q0 * q1))).toNat) (((IntKind.i64.wrap (q0 * q1))).toNat) (List.map (Value.float .f64) ws6) N.t_float64) :: (cl r1 [.int .i64 0, .int .i64 0, .slice none 0 0] N.t_Matrix) :: L)) ?_ h ⟨_, _, rfl, rfl, hS⟩
    clear h hS
    rintro s w t X q ⟨t3, ws6, rfl, rfl, hS⟩ h hX hO
    unfold T_matrix_laid_b7 at h
    try dsimp only
    refine cond_s h ?_ ?_ <;> clear h <;> intro hc h
    · replace h := bnd h
      obtain ⟨o8, h8, c8⟩ := h
      refine cutM_i (fun s w => ∃ (ws7 : List Nat), (List.map nf ws7) = o8 ∧ s = (()) ∧ Ho w0 w ((cl r3 [.int .i64 q0, .int .i64 q1, .slice (some ⟨r2, 0, none⟩) (((IntKind.i64.wrap (q0 * q1))).toNat) (((IntKind.i64.wrap (q0 * q1))).toNat)] N.t_Matrix) :: (sl (some ⟨r2, 0, none⟩) (((IntKind.i64.wrap (q0 * q1))).toNat) (((IntKind.i64.wrap (q0 * q1))).toNat) (List.map (Value.float .f64) ws7) N.t_float64) :: (cl r1 [.int .i64 0, .int .i64 0, .slice none 0 0] N.t_Matrix) :: L)) (fun J8 hJ8 => ?_) ?_
      · have h := h8
        clear h8
        refine iter_sim (fun s w t => ∃ (t6 : Int) (ws9 : List Nat), (t6, (List.map nf ws9)) = t ∧ s = (t6, ()) ∧ Ho w0 w ((cl r3 [.int .i64 q0, .int .i64 q1, .slice (some ⟨r2, 0, none⟩) (((IntKind.i64.wrap (q0 * q1))).toNat) (((IntKind.i64.wrap (q0 * q1))).toNat)] N.t_Matrix) :: (sl (some ⟨r2, 0, none⟩) (((IntKind.i64.wrap (q0 * q1))).toNat) (((IntKind.i64.wrap (q0 * q1))).toNat) (List.map (Value.float .f64) ws9) N.t_float64) :: (cl r1 [.int .i64 0, .int .i64 0, .slice none 0 0] N.t_Matrix) :: L)) ?_ h ⟨_, _, rfl, rfl, hS⟩
        clear h hS
        rintro s w t X q ⟨t6, ws9, rfl, rfl, hS⟩ h hX hO
        unfold T_matrix_laid_b9 at h
        try dsimp only
        refine cond_s h ?_ ?_ <;> clear h <;> intro hc h
        · refine ⟨_, _, _, (hS.cel mp0 rfl), ?_⟩
          refine drM_s hS ?_; clear hS; intro w hS
          replace h := bnd h
          obtain ⟨t8, ht8, h⟩ := h
          refine hf2 _ _ _ _ _ _ tl3 ht8 hS ?_; clear hS ht8; rintro z10 w rfl hS
          refine ⟨_, rfl, ?_⟩
          refine ⟨(hS.cel mp0 rfl), ?_⟩
          replace h := bnd h
          obtain ⟨t9, ht9, h⟩ := h
          obtain ⟨z11, rfl, q12x, q12l, q12r⟩ := atF ht9
          clear ht9
          refine idx_s ((Ent.sl mp1).now (fun _ h => h) hS) q12x q12l q12r ?_; intro b13 hb13
          refine drM_s hS ?_; clear hS; intro w hS
          replace hS := ro1 hS
          replace h := bnd h
          obtain ⟨t10, ht10, h⟩ := h
          obtain rfl := setF ht10
          clear ht10
          refine sto_s hS hb13 q12r ?_; clear hS; intro w hS
          refine drM_s hS ?_; clear hS; intro w hS
          obtain rfl := some_inj h
          exact hX _ rfl _ _ ⟨_, _, rfl, rfl, (hS.pick (A := [_, _, _]) [1, 0, 0] rfl)⟩
        · obtain rfl := some_inj h
          have h := congrArg some (hO _ rfl)
          obtain rfl := some_inj h
          exact hJ8 _ _ ⟨_, rfl, rfl, hS⟩
      · clear h8 hS
        rintro s w ⟨ws7, rfl, rfl, hS⟩
        have h := c8
        clear c8
        try dsimp only
        obtain rfl := some_inj h
        exact hX _ rfl _ _ ⟨_, _, rfl, rfl, hS⟩
    · obtain rfl := some_inj h
      have h := congrArg some (hO _ rfl)
      obtain rfl := some_inj h
      exact hJ5 _ _ ⟨_, rfl, rfl, hS⟩
  · clear h5 hS
    rintro s w ⟨ws4, rfl, rfl, hS⟩
    have h := c5
    clear c5
    try dsimp only
    refine ⟨_, (hS.cel mp0 rfl), ?_⟩
    refine ⟨_, (hS.cel mp0 rfl), ?_⟩
    refine ⟨_, _, _, (hS.cel mp0 rfl), ?_⟩
    replace hS := ro2 hS
    refine stc_s hS rfl rfl ?_; clear hS; intro w hS
    refine stc_s hS rfl rfl ?_; clear hS; intro w hS
    refine stc_s hS rfl rfl ?_; clear hS; intro w hS
    refine ⟨_, (hS.cel mp0 rfl), ?_⟩
    refine ⟨_, (hS.cel mp0 rfl), ?_⟩
    refine ⟨_, _, _, (hS.cel mp0 rfl), ?_⟩
    have h := some_inj h
    cases h
    exact hK _ _ _ _ _ rfl (hS.pick (A := [_, _, _]) [2] rfl)

theorem wk_matrix_Make_1 {N : Nums} {P : Program} (H : AllOk N P) {w0 w : World} {L : List It} {q0 : Int} {q1 : Int} {u0 : Nat} (hS : Ho w0 w L)  (hx : T_matrix_Make_1 q0 q1 = some u0) {K : Value → World → Prop} (hK : ∀ (z0 : Nat) (w1 : World), nf z0 = u0 → Ho w0 w1 (L) → K (.float .f64 z0) w1) : CallsX P N.f_matrix_Make_1 #[.int .i64 q0, .int .i64 q1] w K := by
  refine H.matrix_Make_1 q0 q1 w _ ?_
  unfold S_matrix_Make_1
  unfold T_matrix_Make_1 at hx
  have h := hx
  clear hx
  try dsimp only
  have h := some_inj h
  cases h
  exact hK _ _ rfl hS

theorem wk_matrix_Make {N : Nums} {P : Program} (H : AllOk N P) {w0 w : World} {L : List It} {q0 : Int} {q1 : Int} {u0 : Int} {u1 : Int} {u2 : List Nat} {u3 : Int} (hS : Ho w0 w L)  (hx : T_matrix_Make q0 q1 = some (u0, u1, u2, u3)) {K : Value → World → Prop} (hK : ∀ (a2 : Option Addr) (n2 c2 : Nat) (rws2 : List Nat) (w1 : World), List.map nf rws2 = u2 → Ho w0 w1 ((sl a2 n2 c2 (List.map (Value.float .f64) rws2) N.t_float64) :: L) → K (.tuple #[.agg #[.int .i64 u0, .int .i64 u1, .slice a2 n2 c2], .int .i64 u3]) w1) : CallsX P N.f_matrix_Make #[.int .i64 q0, .int .i64 q1] w K := by
  refine H.matrix_Make q0 q1 w _ ?_
  unfold S_matrix_Make
  unfold T_matrix_Make at hx
  have h := hx
  clear hx
  try dsimp only
  refine newM_s hS ?_; clear hS; intro r1 w hS
  replace h := bnd h
  obtain ⟨t1, ht1, h⟩ := h
  refine wk_matrix_fits H hS  ht1 ?_; clear hS ht1; rintro w hS
  refine ⟨_, rfl, ?_⟩
  refine cond_s h ?_ ?_ <;> clear h <;> intro hc h
  · replace h := bnd h
    obtain ⟨t2, ht2, h⟩ := h
    refine wk_matrix_fits H hS  ht2 ?_; clear hS ht2; rintro w hS
    refine ⟨_, rfl, ?_⟩
    refine cond_s h ?_ ?_ <;> clear h <;> intro hc h
    · refine stc_s hS rfl rfl ?_; clear hS; intro w hS
      refine stc_s hS rfl rfl ?_; clear hS; intro w hS
      refine stc_s hS rfl rfl ?_; clear hS; intro w hS
      refine ⟨_, (hS.cel mp0 rfl), ?_⟩
      refine ⟨_, (hS.cel mp0 rfl), ?_⟩
      refine ⟨_, _, _, (hS.cel mp0 rfl), ?_⟩
      replace hS := hS.none (α := Nat) (enc := (Value.float .f64)) (t := N.t_float64)
      have h := some_inj h
      cases h
      exact hK _ _ _ _ _ rfl (hS.pick (A := [_, _]) [0] rfl)
    · replace h := bnd h
      obtain ⟨⟨t3, t4, t5⟩, ho3, h⟩ := h
      refine wk_matrix_laid H hS (by intro v0 v1 w L1 r1 K hL hx hS hK; exact wk_matrix_Make_1 H hS  hx hK) ho3 ?_; clear hS ho3; rintro a2 m2 c2 ws2 w rfl hS
      refine ⟨_, _, _, _, _, rfl, ?_⟩
      replace hS := ro1 hS
      refine stc_s hS rfl rfl ?_; clear hS; intro w hS
      refine stc_s hS rfl rfl ?_; clear hS; intro w hS
      refine stc_s hS rfl rfl ?_; clear hS; intro w hS
      refine ⟨_, (hS.cel mp0 rfl), ?_⟩
      refine ⟨_, (hS.cel mp0 rfl), ?_⟩
      refine ⟨_, _, _, (hS.cel mp0 rfl), ?_⟩
      have h := some_inj h
      cases h
      exact hK _ _ _ _ _ rfl (hS.pick (A := [_, _]) [1] rfl)
  · refine stc_s hS rfl rfl ?_; clear hS; intro w hS
    refine stc_s hS rfl rfl ?_; clear hS; intro w hS
    refine stc_s hS rfl rfl ?_; clear hS; intro w hS
    refine ⟨_, (hS.cel mp0 rfl), ?_⟩
    refine ⟨_, (hS.cel mp0 rfl), ?_⟩
    refine ⟨_, _, _, (hS.cel mp0 rfl), ?_⟩
    replace hS := hS.none (α := Nat) (enc := (Value.float .f64)) (t := N.t_float64)
    have h := some_inj h
    cases h
    exact hK _ _ _ _ _ rfl (hS.pick (A := [_, _]) [0] rfl)

theorem wk_matrix_Identity {N : Nums} {P : Program} (H : AllOk N P) {w0 w : World} {L : List It} {q0 : Int} {u0 : Int} {u1 : Int} {u2 : List Nat} {u3 : Int} (hS : Ho w0 w L)  (hx : T_matrix_Identity q0 = some (u0, u1, u2, u3)) {K : Value → World → Prop} (hK : ∀ (a2 : Option Addr) (n2 c2 : Nat) (rws2 : List Nat) (w1 : World), List.map nf rws2 = u2 → Ho w0 w1 ((sl a2 n2 c2 (List.map (Value.float .f64) rws2) N.t_float64) :: L) → K (.tuple #[.agg #[.int .i64 u0, .int .i64 u1, .slice a2 n2 c2], .int .i64 u3]) w1) : CallsX P N.f_matrix_Identity #[.int .i64 q0] w K := by
  refine H.matrix_Identity q0 w _ ?_
  unfold S_matrix_Identity
  unfold T_matrix_Identity at hx
  have h := hx
  clear hx
  try dsimp only
  refine newM_s hS ?_; clear hS; intro r1 w hS
  replace h := bnd h
  obtain ⟨⟨t1, t2, t3, t4⟩, ho1, h⟩ := h
  refine wk_matrix_Make H hS  ho1 ?_; clear hS ho1; rintro a2 m2 c2 ws2 w rfl hS
  refine ⟨_, _, _, _, _, _, rfl, ?_⟩
  refine newM_s hS ?_; clear hS; intro r3 w hS
  refine stc_s hS rfl rfl ?_; clear hS; intro w hS
  refine stc_s hS rfl rfl ?_; clear hS; intro w hS
  refine stc_s hS rfl rfl ?_; clear hS; intro w hS
  refine ⟨_, (hS.cel mp0 rfl), ?_⟩
  replace h := bnd h
  obtain ⟨o5, h5, c5⟩ := h
  refine cutM_i (fun s w => ∃ (ws4 : List Nat), (List.map nf ws4) = o5 ∧ s = (()) ∧ Ho w0 w ((cl r3 [.int .i64 t1, .int .i64 t2, .slice a2 m2 c2] N.t_Matrix) :: (sl a2 m2 c2 (List.map (Value.float .f64) ws4) N.t_float64) :: (cl r1 [.int .i64 0, .int .i64 0, .slice none 0 0] N.t_Matrix) :: L)) (fun J5 hJ5 => ?_) ?_
  · have h := h5
    clear h5
    refine iter_sim (fun s w t => ∃ (t6 : Int) (ws6 : List Nat), (t6, (List.map nf ws6)) = t ∧ s = (t6, ()) ∧ Ho w0 w ((cl r3 [.int .i64 t1, .int .i64 t2, .slice a2 m2 c2] N.t_Matrix) :: (sl a2 m2 c2 (List.map (Value.float .f64) ws6) N.t_float64) :: (cl r1 [.int .i64 0, .int .i64 0, .slice none 0 0] N.t_Matrix) :: L)) ?_ h ⟨_, _, rfl, rfl, hS⟩
    clear h hS
    rintro s w t X q ⟨t6, ws6, rfl, rfl, hS⟩ h hX hO
    unfold T_matrix_Identity_b2 at h
    try dsimp only
    refine cond_s h ?_ ?_ <;> clear h <;> intro hc h
    · refine ⟨_, _, _, (hS.cel mp0 rfl), ?_⟩
      replace h := bnd h
      obtain ⟨t8, ht8, h⟩ := h
      obtain ⟨z7, rfl, q8x, q8l, q8r⟩ := atF ht8
      clear ht8
      refine idx_s ((Ent.sl mp1).now (fun _ h => h) hS) q8x q8l q8r ?_; intro b9 hb9
      replace hS := ro1 hS
      replace h := bnd h
      obtain ⟨t9, ht9, h⟩ := h
      obtain rfl := setF ht9
      clear ht9
      refine sto_s hS hb9 q8r ?_; clear hS; intro w hS
      obtain rfl := some_inj h
      exact hX _ rfl _ _ ⟨_, _, rfl, rfl, (hS.pick (A := [_, _, _]) [1, 0, 0] rfl)⟩
    · obtain rfl := some_inj h
      have h := congrArg some (hO _ rfl)
      obtain rfl := some_inj h
      exact hJ5 _ _ ⟨_, rfl, rfl, hS⟩
  · clear h5 hS
    rintro s w ⟨ws4, rfl, rfl, hS⟩
    have h := c5
    clear c5
    try dsimp only
    refine ⟨_, (hS.cel mp0 rfl), ?_⟩
    refine ⟨_, (hS.cel mp0 rfl), ?_⟩
    refine ⟨_, _, _, (hS.cel mp0 rfl), ?_⟩
    replace hS := ro2 hS
    refine stc_s hS rfl rfl ?_; clear hS; intro w hS
    refine stc_s hS rfl rfl ?_; clear hS; intro w hS
    refine stc_s hS rfl rfl ?_; clear hS; intro w hS
    refine ⟨_, (hS.cel mp0 rfl), ?_⟩
    refine ⟨_, (hS.cel mp0 rfl), ?_⟩
    refine ⟨_, _, _, (hS.cel mp0 rfl), ?_⟩
    have h := some_inj h
    cases h
    exact hK _ _ _ _ _ rfl (hS.pick (A := [_, _, _]) [2] rfl)

theorem wk_matrix_Right {N : Nums} {P : Program} (H : AllOk N P) {w0 w : World} {L : List It} {q0_0 : Int} {q0_1 : Int} {q0_2 : Option Addr} {q0_2l q0_2c : Nat} {ws0_2 : List Nat} {u0 : Bool} (hS : Ho w0 w L) (hq0_2 : Ent L (rdA (List.map (Value.float .f64) ws0_2) q0_2 q0_2l q0_2c)) (hx : T_matrix_Right q0_0 q0_1 (List.map nf ws0_2) = some u0) {K : Value → World → Prop} (hK : ∀  (w1 : World), Ho w0 w1 (L) → K (.bool u0) w1) : CallsX P N.f_matrix_Right #[.agg #[.int .i64 q0_0, .int .i64 q0_1, .slice q0_2 q0_2l q0_2c]] w K := by
  refine H.matrix_Right q0_0 q0_1 q0_2 q0_2l q0_2c w _ ?_
  unfold S_matrix_Right
  unfold T_matrix_Right at hx
  have h := hx
  clear hx
  try dsimp only
  refine newM_s hS ?_; clear hS; intro r1 w hS
  refine ⟨_, (hS.cel mp0 rfl), ?_⟩
  replace h := bnd h
  obtain ⟨t1, ht1, h⟩ := h
  refine wk_matrix_fits H hS  ht1 ?_; clear hS ht1; rintro w hS
  refine ⟨_, rfl, ?_⟩
  refine cond_s h ?_ ?_ <;> clear h <;> intro hc h
  · refine ⟨_, (hS.cel mp0 rfl), ?_⟩
    replace h := bnd h
    obtain ⟨t2, ht2, h⟩ := h
    refine wk_matrix_fits H hS  ht2 ?_; clear hS ht2; rintro w hS
    refine ⟨_, rfl, ?_⟩
    refine cond_s h ?_ ?_ <;> clear h <;> intro hc h
    · refine ⟨_, _, _, (hS.cel mp0 rfl), ?_⟩
      replace h := bnd h
      obtain ⟨t3, ht3, h⟩ := h
      obtain rfl := lenF ht3 ((hq0_2.mono tl1).now (fun _ h => h) hS)
      clear ht3
      refine ⟨_, (hS.cel mp0 rfl), ?_⟩
      refine ⟨_, (hS.cel mp0 rfl), ?_⟩
      have h := some_inj h
      cases h
      exact hK _ (hS.pick (A := [_]) [] rfl)
    · have h := some_inj h
      cases h
      exact hK _ (hS.pick (A := [_]) [] rfl)
  · have h := some_inj h
    cases h
    exact hK _ (hS.pick (A := [_]) [] rfl)

theorem wk_matrix_Transpose_1 {N : Nums} {P : Program} (H : AllOk N P) {w0 w : World} {L : List It} {q0 : Int} {q1 : Int} {r_2 : Nat} {q2_0 : Int} {q2_1 : Int} {q2_2 : Option Addr} {q2_2l q2_2c : Nat} {ws2_2 : List Nat} {u0 : Nat} (hS : Ho w0 w L) (eq2 : Ent L (cl r_2 [.int .i64 q2_0, .int .i64 q2_1, .slice q2_2 q2_2l q2_2c] N.t_Matrix).A) (hq2_2 : Ent L (rdA (List.map (Value.float .f64) ws2_2) q2_2 q2_2l q2_2c)) (hx : T_matrix_Transpose_1 q0 q1 q2_0 q2_1 (List.map nf ws2_2) = some u0) {K : Value → World → Prop} (hK : ∀ (z0 : Nat) (w1 : World), nf z0 = u0 → Ho w0 w1 (L) → K (.float .f64 z0) w1) : CallsX P N.f_matrix_Transpose_1 #[.int .i64 q0, .int .i64 q1, .pointer (some ⟨r_2, 0, none⟩)] w K := by
  refine H.matrix_Transpose_1 q0 q1 (some ⟨r_2, 0, none⟩) w _ ?_
  unfold S_matrix_Transpose_1
  unfold T_matrix_Transpose_1 at hx
  have h := hx
  clear hx
  try dsimp only
  refine optM_s ?_
  refine ⟨_, _, _, (eq2.cel (fun _ h => h) hS rfl), ?_⟩
  refine optM_s ?_
  refine ⟨_, (eq2.cel (fun _ h => h) hS rfl), ?_⟩
  replace h := bnd h
  obtain ⟨t1, ht1, h⟩ := h
  obtain ⟨z1, rfl, q2x, q2l, q2r⟩ := atF ht1
  clear ht1
  refine idx_s (hq2_2.now (fun _ h => h) hS) q2x q2l q2r ?_; intro b3 hb3
  refine ⟨_, rd_get (hq2_2.now (fun _ h => h) hS) hb3 q2x, ?_⟩
  have h := some_inj h
  cases h
  exact hK _ _ rfl hS

theorem wk_matrix_Transpose {N : Nums} {P : Program} (H : AllOk N P) {w0 w : World} {L : List It} {q0_0 : Int} {q0_1 : Int} {q0_2 : Option Addr} {q0_2l q0_2c : Nat} {ws0_2 : List Nat} {u0 : Int} {u1 : Int} {u2 : List Nat} {u3 : Int} (hS : Ho w0 w L) (hq0_2 : Ent L (rdA (List.map (Value.float .f64) ws0_2) q0_2 q0_2l q0_2c)) (hx : T_matrix_Transpose q0_0 q0_1 (List.map nf ws0_2) = some (u0, u1, u2, u3)) {K : Value → World → Prop} (hK : ∀ (a2 : Option Addr) (n2 c2 : Nat) (rws2 : List Nat) (w1 : World), List.map nf rws2 = u2 → Ho w0 w1 ((sl a2 n2 c2 (List.map (Value.float .f64) rws2) N.t_float64) :: L) → K (.tuple #[.agg #[.int .i64 u0, .int .i64 u1, .slice a2 n2 c2], .int .i64 u3]) w1) : CallsX P N.f_matrix_Transpose #[.agg #[.int .i64 q0_0, .int .i64 q0_1, .slice q0_2 q0_2l q0_2c]] w K := by
  refine H.matrix_Transpose q0_0 q0_1 q0_2 q0_2l q0_2c w _ ?_
  unfold S_matrix_Transpose
  unfold T_matrix_Transpose at hx
  have h := hx
  clear hx
  try dsimp only
  refine newM_s hS ?_; clear hS; intro r1 w hS
  refine newM_s hS ?_; clear hS; intro r2 w hS
  refine ⟨_, (hS.cel mp1 rfl), ?_⟩
  refine ⟨_, (hS.cel mp1 rfl), ?_⟩
  refine ⟨_, _, _, (hS.cel mp1 rfl), ?_⟩
  replace h := bnd h
  obtain ⟨t1, ht1, h⟩ := h
  refine wk_matrix_Right H hS (hq0_2.mono tl2) ht1 ?_; clear hS ht1; rintro w hS
  refine ⟨_, rfl, ?_⟩
  refine cond_s h ?_ ?_ <;> clear h <;> intro hc h
  · refine stc_s hS rfl rfl ?_; clear hS; intro w hS
    refine stc_s hS rfl rfl ?_; clear hS; intro w hS
    refine stc_s hS rfl rfl ?_; clear hS; intro w hS
    refine ⟨_, (hS.cel mp0 rfl), ?_⟩
    refine ⟨_, (hS.cel mp0 rfl), ?_⟩
    refine ⟨_, _, _, (hS.cel mp0 rfl), ?_⟩
    replace hS := hS.none (α := Nat) (enc := (Value.float .f64)) (t := N.t_float64)
    have h := some_inj h
    cases h
    exact hK _ _ _ _ _ rfl (hS.pick (A := [_, _, _]) [0] rfl)
  · refine ⟨_, (hS.cel mp1 rfl), ?_⟩
    refine ⟨_, (hS.cel mp1 rfl), ?_⟩
    replace h := bnd h
    obtain ⟨⟨t2, t3, t4⟩, ho2, h⟩ := h
    refine wk_matrix_laid H hS (by intro v0 v1 w L1 r1 K hL hx hS hK; exact wk_matrix_Transpose_1 H hS ((Ent.of mp1).mono hL) ((hq0_2.mono tl2).mono hL) hx hK) ho2 ?_; clear hS ho2; rintro a3 m3 c3 ws3 w rfl hS
    refine ⟨_, _, _, _, _, rfl, ?_⟩
    replace hS := ro1 hS
    refine stc_s hS rfl rfl ?_; clear hS; intro w hS
    refine stc_s hS rfl rfl ?_; clear hS; intro w hS
    refine stc_s hS rfl rfl ?_; clear hS; intro w hS
    refine ⟨_, (hS.cel mp0 rfl), ?_⟩
    refine ⟨_, (hS.cel mp0 rfl), ?_⟩
    refine ⟨_, _, _, (hS.cel mp0 rfl), ?_⟩
    have h := some_inj h
    cases h
    exact hK _ _ _ _ _ rfl (hS.pick (A := [_, _, _]) [1] rfl)

theorem wk_solve_Inverse {N : Nums} {P : Program} (H : AllOk N P) {w0 w : World} {L : List It} {q0_0 : Int} {q0_1 : Option Addr} {q0_1l q0_1c : Nat} {ws0_1 : List Nat} {q0_2 : Option Addr} {q0_2l q0_2c : Nat} {ws0_2 : List Nat} {u0 : Int} {u1 : Int} {u2 : List Nat} {u3 : Int} (hS : Ho w0 w L) (hq0_1 : Ent L (rdA (List.map (Value.float .f64) ws0_1) q0_1 q0_1l q0_1c)) (hq0_2 : Ent L (rdA (List.map (Value.float .f64) ws0_2) q0_2 q0_2l q0_2c)) (hx : T_solve_Inverse q0_0 (List.map nf ws0_1) (List.map nf ws0_2) = some (u0, u1, u2, u3)) {K : Value → World → Prop} (hK : ∀ (a2 : Option Addr) (n2 c2 : Nat) (rws2 : List Nat) (w1 : World), List.map nf rws2 = u2 → Ho w0 w1 ((sl a2 n2 c2 (List.map (Value.float .f64) rws2) N.t_float64) :: L) → K (.tuple #[.agg #[.int .i64 u0, .int .i64 u1, .slice a2 n2 c2], .int .i64 u3]) w1) : CallsX P N.f_solve_Inverse #[.agg #[.int .i64 q0_0, .slice q0_1 q0_1l q0_1c, .slice q0_2 q0_2l q0_2c]] w K := by
  refine H.solve_Inverse q0_0 q0_1 q0_1l q0_1c q0_2 q0_2l q0_2c w _ ?_
  unfold S_solve_Inverse
  unfold T_solve_Inverse at hx
  have h := hx
  clear hx
  try dsimp only
  refine newM_s hS ?_; clear hS; intro r1 w hS
  refine newM_s hS ?_; clear hS; intro r2 w hS
  refine ⟨_, (hS.cel mp1 rfl), ?_⟩
  refine ⟨_, _, _, (hS.cel mp1 rfl), ?_⟩
  refine ⟨_, _, _, (hS.cel mp1 rfl), ?_⟩
  refine ⟨_, (hS.cel mp1 rfl), ?_⟩
  replace h := bnd h
  obtain ⟨t1, ht1, h⟩ := h
  refine wk_solve_fits H hS (hq0_1.mono tl2) (hq0_2.mono tl2) ht1 ?_; clear hS ht1; rintro w hS
  refine ⟨_, rfl, ?_⟩
  refine cond_s h ?_ ?_ <;> clear h <;> intro hc h
  · refine stc_s hS rfl rfl ?_; clear hS; intro w hS
    refine stc_s hS rfl rfl ?_; clear hS; intro w hS
    refine stc_s hS rfl rfl ?_; clear hS; intro w hS
    refine ⟨_, (hS.cel mp0 rfl), ?_⟩
    refine ⟨_, (hS.cel mp0 rfl), ?_⟩
    refine ⟨_, _, _, (hS.cel mp0 rfl), ?_⟩
    replace hS := hS.none (α := Nat) (enc := (Value.float .f64)) (t := N.t_float64)
    have h := some_inj h
    cases h
    exact hK _ _ _ _ _ rfl (hS.pick (A := [_, _, _]) [0] rfl)
  · refine ⟨_, (hS.cel mp1 rfl), ?_⟩
    replace h := bnd h
    obtain ⟨⟨t2, t3, t4, t5⟩, ho2, h⟩ := h
    refine wk_matrix_Identity H hS  ho2 ?_; clear hS ho2; rintro a3 m3 c3 ws3 w rfl hS
    refine ⟨_, _, _, _, _, _, rfl, ?_⟩
    refine newM_s hS ?_; clear hS; intro r4 w hS
    refine stc_s hS rfl rfl ?_; clear hS; intro w hS
    refine stc_s hS rfl rfl ?_; clear hS; intro w hS
    refine stc_s hS rfl rfl ?_; clear hS; intro w hS
    refine cond_s h ?_ ?_ <;> clear h <;> intro hc h
    · replace hS := ro2 hS
      refine stc_s hS rfl rfl ?_; clear hS; intro w hS
      refine stc_s hS rfl rfl ?_; clear hS; intro w hS
      refine stc_s hS rfl rfl ?_; clear hS; intro w hS
      refine ⟨_, (hS.cel mp0 rfl), ?_⟩
      refine ⟨_, (hS.cel mp0 rfl), ?_⟩
      refine ⟨_, _, _, (hS.cel mp0 rfl), ?_⟩
      replace hS := hS.none (α := Nat) (enc := (Value.float .f64)) (t := N.t_float64)
      have h := some_inj h
      cases h
      exact hK _ _ _ _ _ rfl (hS.pick (A := [_, _, _, _, _]) [0] rfl)
    · refine ⟨_, (hS.cel mp3 rfl), ?_⟩
      refine ⟨_, (hS.cel mp3 rfl), ?_⟩
      refine newM_s hS ?_; clear hS; intro r5 w hS
      refine stc_s hS rfl rfl ?_; clear hS; intro w hS
      refine stc_s hS rfl rfl ?_; clear hS; intro w hS
      refine stc_s hS rfl rfl ?_; clear hS; intro w hS
      refine ⟨_, (hS.cel mp4 rfl), ?_⟩
      replace h := bnd h
      obtain ⟨o10, h10, c10⟩ := h
      refine cutM_i (fun s w => ∃ (a6 : Option Addr) (m7 : Nat) (c8 : Nat) (ws9 : List Nat), .inl (List.map nf ws9) = o10 ∧ s = (()) ∧ Ho w0 w ((cl r5 [.int .i64 q0_0, .int .i64 q0_0, .slice a6 m7 c8] N.t_Matrix) :: (cl r2 [.int .i64 0, .int .i64 0, .slice none 0 0] N.t_Matrix) :: (sl a6 m7 c8 (List.map (Value.float .f64) ws9) N.t_float64) :: L)) (fun J10 hJ10 => ?_) ?_
      · have h := h10
        clear h10
        replace hS := hS.none (α := Nat) (enc := (Value.float .f64)) (t := N.t_float64)
        refine iter_sim (fun s w t => ∃ (t7 : Int) (a11 : Option Addr) (m12 : Nat) (c13 : Nat) (ws14 : List Nat), (t7, (List.map nf ws14)) = t ∧ s = (t7, ()) ∧ Ho w0 w ((cl r5 [.int .i64 q0_0, .int .i64 q0_0, .slice a11 m12 c13] N.t_Matrix) :: (cl r4 [.int .i64 t2, .int .i64 t3, .slice a3 m3 c3] N.t_Matrix) :: (sl a3 m3 c3 (List.map (Value.float .f64) ws3) N.t_float64) :: (cl r2 [.int .i64 0, .int .i64 0, .slice none 0 0] N.t_Matrix) :: (cl r1 [.int .i64 q0_0, .slice q0_1 q0_1l q0_1c, .slice q0_2 q0_2l q0_2c] N.t_Factor) :: (sl a11 m12 c13 (List.map (Value.float .f64) ws14) N.t_float64) :: L)) ?_ h ⟨_, _, _, _, _, rfl, rfl, (hS.pick (A := [_, _, _, _, _, _]) [1, 1, 1, 1, 1, 0] rfl)⟩
        clear h hS
        rintro s w t X q ⟨t7, a11, m12, c13, ws14, rfl, rfl, hS⟩ h hX hO
        unfold T_solve_Inverse_b2 at h
        try dsimp only
        refine cond_s h ?_ ?_ <;> clear h <;> intro hc h
        · refine ⟨_, (hS.cel mp4 rfl), ?_⟩
          refine ⟨_, _, _, (hS.cel mp4 rfl), ?_⟩
          refine ⟨_, _, _, (hS.cel mp4 rfl), ?_⟩
          refine ⟨_, _, _, (hS.cel mp1 rfl), ?_⟩
          refine ⟨_, (hS.cel mp4 rfl), ?_⟩
          refine ⟨_, (hS.cel mp4 rfl), ?_⟩
          replace h := bnd h
          obtain ⟨t9, ht9, h⟩ := h
          obtain ⟨rfl, q150, q151, q152⟩ := subF ht9
          clear ht9
          have q153 := ((Ent.sl mp2).now (fun _ h => h) hS).hiCap q152
          refine ⟨Int.le_trans q150 q151, q153, q150, q151, ?_⟩
          refine drM_s hS ?_; clear hS; intro w hS
          replace h := bnd h
          obtain ⟨⟨t10, t11⟩, ho10, h⟩ := h
          refine wk_solve_Solve H hS (hq0_1.mono tl6) (hq0_2.mono tl6) (Ent.part (Ent.sl mp2) q150 q151 q152) ho10 ?_; clear hS ho10; rintro a16 m16 c16 ws16 w rfl hS
          refine ⟨_, _, _, _, rfl, ?_⟩
          refine ⟨(hS.cel mp5 rfl), ?_⟩
          refine ⟨(hS.cel mp5 rfl), ?_⟩
          refine ⟨(hS.cel mp2 rfl), ?_⟩
          refine drM_s hS ?_; clear hS; intro w hS
          refine cond_s h ?_ ?_ <;> clear h <;> intro hc h
          · replace hS := ro4 hS
            refine stc_s hS rfl rfl ?_; clear hS; intro w hS
            refine stc_s hS rfl rfl ?_; clear hS; intro w hS
            refine stc_s hS rfl rfl ?_; clear hS; intro w hS
            obtain rfl := some_inj h
            have h := congrArg some (hO _ rfl)
            obtain rfl := some_inj h
            have h := c10
            refine ⟨_, (hS.cel mp0 rfl), ?_⟩
            refine ⟨_, (hS.cel mp0 rfl), ?_⟩
            refine ⟨_, _, _, (hS.cel mp0 rfl), ?_⟩
            replace hS := hS.none (α := Nat) (enc := (Value.float .f64)) (t := N.t_float64)
            have h := some_inj h
            cases h
            exact hK _ _ _ _ _ rfl (hS.pick (A := [_, _, _, _, _, _, _, _]) [0] rfl)
          · refine ⟨_, _, _, (hS.cel mp1 rfl), ?_⟩
            replace h := bnd h
            obtain ⟨t12, ht12, h⟩ := h
            obtain ⟨rfl, kt12⟩ := appF ht12
            clear ht12
            replace hS := ro6 hS
            refine app_s hS kt12 ((Ent.sl mp1).now (fun _ h => h) hS) (fun _ => rfl) rfl ?_; clear hS kt12; intro a17 c17 w hS
            replace hS := ro2 hS
            refine stc_s hS rfl rfl ?_; clear hS; intro w hS
            obtain rfl := some_inj h
            exact hX _ rfl _ _ ⟨_, _, _, _, _, rfl, rfl, (hS.pick (A := [_, _, _, _, _, _, _]) [0, 2, 2, 2, 2, 0] rfl)⟩
        · obtain rfl := some_inj h
          have h := congrArg some (hO _ rfl)
          obtain rfl := some_inj h
          exact hJ10 _ _ ⟨_, _, _, _, rfl, rfl, (hS.pick (A := [_, _, _, _, _, _]) [0, 2, 3] rfl)⟩
      · clear h10 hS
        rintro s w ⟨a6, m7, c8, ws9, rfl, rfl, hS⟩
        have h := c10
        clear c10
        try dsimp only
        refine ⟨_, (hS.cel mp0 rfl), ?_⟩
        refine ⟨_, (hS.cel mp0 rfl), ?_⟩
        refine ⟨_, _, _, (hS.cel mp0 rfl), ?_⟩
        replace h := bnd h
        obtain ⟨⟨t13, t14, t15, t16⟩, ho13, h⟩ := h
        refine wk_matrix_Transpose H hS (Ent.sl mp2) ho13 ?_; clear hS ho13; rintro a18 m18 c18 ws18 w rfl hS
        refine ⟨_, _, _, _, _, _, rfl, ?_⟩
        replace hS := ro2 hS
        refine stc_s hS rfl rfl ?_; clear hS; intro w hS
        refine stc_s hS rfl rfl ?_; clear hS; intro w hS
        refine stc_s hS rfl rfl ?_; clear hS; intro w hS
        refine ⟨_, (hS.cel mp0 rfl), ?_⟩
        refine ⟨_, (hS.cel mp0 rfl), ?_⟩
        refine ⟨_, _, _, (hS.cel mp0 rfl), ?_⟩
        have h := some_inj h
        cases h
        exact hK _ _ _ _ _ rfl (hS.pick (A := [_, _, _, _]) [1] rfl)

theorem wk_girderref13_Inverse {N : Nums} {P : Program} (H : AllOk N P) {w0 w : World} {L : List It} {q0_0 : Int} {q0_1 : Option Addr} {q0_1l q0_1c : Nat} {ws0_1 : List Nat} {q0_2 : Option Addr} {q0_2l q0_2c : Nat} {ws0_2 : List Nat} {u0 : Int} {u1 : Int} {u2 : List Nat} {u3 : Int} (hS : Ho w0 w L) (hq0_1 : Ent L (rdA (List.map (Value.float .f64) ws0_1) q0_1 q0_1l q0_1c)) (hq0_2 : Ent L (rdA (List.map (Value.float .f64) ws0_2) q0_2 q0_2l q0_2c)) (hx : T_girderref13_Inverse q0_0 (List.map nf ws0_1) (List.map nf ws0_2) = some (u0, u1, u2, u3)) {K : Value → World → Prop} (hK : ∀ (a2 : Option Addr) (n2 c2 : Nat) (rws2 : List Nat) (w1 : World), List.map nf rws2 = u2 → Ho w0 w1 ((sl a2 n2 c2 (List.map (Value.float .f64) rws2) N.t_float64) :: L) → K (.tuple #[.agg #[.int .i64 u0, .int .i64 u1, .slice a2 n2 c2], .int .i64 u3]) w1) : CallsX P N.f_girderref13_Inverse #[.agg #[.int .i64 q0_0, .slice q0_1 q0_1l q0_1c, .slice q0_2 q0_2l q0_2c]] w K := by
  refine H.girderref13_Inverse q0_0 q0_1 q0_1l q0_1c q0_2 q0_2l q0_2c w _ ?_
  unfold S_girderref13_Inverse
  unfold T_girderref13_Inverse at hx
  have h := hx
  clear hx
  try dsimp only
  refine newM_s hS ?_; clear hS; intro r1 w hS
  refine newM_s hS ?_; clear hS; intro r2 w hS
  refine ⟨_, (hS.cel mp1 rfl), ?_⟩
  refine ⟨_, _, _, (hS.cel mp1 rfl), ?_⟩
  refine ⟨_, _, _, (hS.cel mp1 rfl), ?_⟩
  replace h := bnd h
  obtain ⟨t1, ht1, h⟩ := h
  refine wk_girderref13_Right H hS (hq0_1.mono tl2) (hq0_2.mono tl2) ht1 ?_; clear hS ht1; rintro w hS
  refine ⟨_, rfl, ?_⟩
  refine cond_s h ?_ ?_ <;> clear h <;> intro hc h
  · refine stc_s hS rfl rfl ?_; clear hS; intro w hS
    refine stc_s hS rfl rfl ?_; clear hS; intro w hS
    refine stc_s hS rfl rfl ?_; clear hS; intro w hS
    refine ⟨_, (hS.cel mp0 rfl), ?_⟩
    refine ⟨_, (hS.cel mp0 rfl), ?_⟩
    refine ⟨_, _, _, (hS.cel mp0 rfl), ?_⟩
    replace hS := hS.none (α := Nat) (enc := (Value.float .f64)) (t := N.t_float64)
    have h := some_inj h
    cases h
    exact hK _ _ _ _ _ rfl (hS.pick (A := [_, _, _]) [0] rfl)
  · refine ⟨_, (hS.cel mp1 rfl), ?_⟩
    refine ⟨_, _, _, (hS.cel mp1 rfl), ?_⟩
    refine ⟨_, _, _, (hS.cel mp1 rfl), ?_⟩
    replace h := bnd h
    obtain ⟨t2, ht2, h⟩ := h
    refine wk_girderref13_zero H hS (hq0_1.mono tl2) (hq0_2.mono tl2) ht2 ?_; clear hS ht2; rintro w hS
    refine ⟨_, rfl, ?_⟩
    refine cond_s h ?_ ?_ <;> clear h <;> intro hc h
    · refine stc_s hS rfl rfl ?_; clear hS; intro w hS
      refine stc_s hS rfl rfl ?_; clear hS; intro w hS
      refine stc_s hS rfl rfl ?_; clear hS; intro w hS
      refine ⟨_, (hS.cel mp0 rfl), ?_⟩
      refine ⟨_, (hS.cel mp0 rfl), ?_⟩
      refine ⟨_, _, _, (hS.cel mp0 rfl), ?_⟩
      replace hS := hS.none (α := Nat) (enc := (Value.float .f64)) (t := N.t_float64)
      have h := some_inj h
      cases h
      exact hK _ _ _ _ _ rfl (hS.pick (A := [_, _, _]) [0] rfl)
    · replace h := bnd h
      obtain ⟨o6, h6, c6⟩ := h
      refine cutM_i (fun s w => ∃ (r3 : Nat) (r4 : Nat) (ws5 : List Nat), (List.map nf ws5) = o6 ∧ s = ((some ⟨r3, 0, none⟩), ()) ∧ Ho w0 w ((cl r3 [.int .i64 q0_0, .int .i64 q0_0, .slice (some ⟨r4, 0, none⟩) (((IntKind.i64.wrap (q0_0 * q0_0))).toNat) (((IntKind.i64.wrap (q0_0 * q0_0))).toNat)] N.t_Matrix) :: (sl (some ⟨r4, 0, none⟩) (((IntKind.i64.wrap (q0_0 * q0_0))).toNat) (((IntKind.i64.wrap (q0_0 * q0_0))).toNat) (List.map (Value.float .f64) ws5) N.t_float64) :: (cl r2 [.int .i64 0, .int .i64 0, .slice none 0 0] N.t_Matrix) :: (cl r1 [.int .i64 q0_0, .slice q0_1 q0_1l q0_1c, .slice q0_2 q0_2l q0_2c] N.t_Factor) :: L)) (fun J6 hJ6 => ?_) ?_
      · have h := h6
        clear h6
        refine ⟨_, (hS.cel mp1 rfl), ?_⟩
        refine ⟨_, (hS.cel mp1 rfl), ?_⟩
        refine ⟨_, (hS.cel mp1 rfl), ?_⟩
        refine ⟨_, (hS.cel mp1 rfl), ?_⟩
        refine ⟨?_, ?_⟩
        · refine drM_s hS ?_; clear hS; intro w hS
          replace h := bnd h
          obtain ⟨t4, ht4, h⟩ := h
          obtain ⟨rfl, kt4⟩ := mkF ht4
          clear ht4
          refine mk_s (enc := (Value.float .f64)) hS kt4 rfl ?_; clear hS kt4; intro r7 w hS
          refine ⟨(hS.cel mp2 rfl), ?_⟩
          refine ⟨(hS.cel mp2 rfl), ?_⟩
          refine ⟨(hS.cel mp2 rfl), ?_⟩
          refine ⟨(hS.cel mp2 rfl), ?_⟩
          refine drM_s hS ?_; clear hS; intro w hS
          refine newM_s hS ?_; clear hS; intro r8 w hS
          refine ⟨(hS.cel mp3 rfl), ?_⟩
          refine ⟨(hS.cel mp3 rfl), ?_⟩
          refine ⟨(hS.cel mp3 rfl), ?_⟩
          refine ⟨(hS.cel mp3 rfl), ?_⟩
          refine drM_s hS ?_; clear hS; intro w hS
          refine stc_s hS rfl rfl ?_; clear hS; intro w hS
          refine stc_s hS rfl rfl ?_; clear hS; intro w hS
          refine stc_s hS rfl rfl ?_; clear hS; intro w hS
          refine drM_s hS ?_; clear hS; intro w hS
          obtain rfl := some_inj h
          exact hJ6 _ _ ⟨_, _, _, rfl, rfl, hS⟩
        · refine drM_s hS ?_; clear hS; intro w hS
          refine newM_s hS ?_; clear hS; intro r9 w hS
          refine ⟨(hS.cel mp2 rfl), ?_⟩
          refine ⟨(hS.cel mp2 rfl), ?_⟩
          refine ⟨(hS.cel mp2 rfl), ?_⟩
          refine ⟨(hS.cel mp2 rfl), ?_⟩
          refine drM_s hS ?_; clear hS; intro w hS
          replace h := bnd h
          obtain ⟨t4, ht4, h⟩ := h
          obtain ⟨rfl, kt4⟩ := mkF ht4
          clear ht4
          refine mk_s (enc := (Value.float .f64)) hS kt4 rfl ?_; clear hS kt4; intro r10 w hS
          refine ⟨(hS.cel mp3 rfl), ?_⟩
          refine ⟨(hS.cel mp3 rfl), ?_⟩
          refine ⟨(hS.cel mp3 rfl), ?_⟩
          refine ⟨(hS.cel mp3 rfl), ?_⟩
          refine drM_s hS ?_; clear hS; intro w hS
          replace hS := ro1 hS
          refine stc_s hS rfl rfl ?_; clear hS; intro w hS
          refine stc_s hS rfl rfl ?_; clear hS; intro w hS
          refine stc_s hS rfl rfl ?_; clear hS; intro w hS
          refine drM_s hS ?_; clear hS; intro w hS
          obtain rfl := some_inj h
          exact hJ6 _ _ ⟨_, _, _, rfl, rfl, hS⟩
      · clear h6 hS
        rintro s w ⟨r3, r4, ws5, rfl, rfl, hS⟩
        have h := c6
        clear c6
        try dsimp only
        replace h := bnd h
        obtain ⟨o12, h12, c12⟩ := h
        refine cutM_i (fun s w => ∃ (ws11 : List Nat), (List.map nf ws11) = o12 ∧ s = (()) ∧ Ho w0 w ((cl r3 [.int .i64 q0_0, .int .i64 q0_0, .slice (some ⟨r4, 0, none⟩) (((IntKind.i64.wrap (q0_0 * q0_0))).toNat) (((IntKind.i64.wrap (q0_0 * q0_0))).toNat)] N.t_Matrix) :: (sl (some ⟨r4, 0, none⟩) (((IntKind.i64.wrap (q0_0 * q0_0))).toNat) (((IntKind.i64.wrap (q0_0 * q0_0))).toNat) (List.map (Value.float .f64) ws11) N.t_float64) :: (cl r2 [.int .i64 0, .int .i64 0, .slice none 0 0] N.t_Matrix) :: L)) (fun J12 hJ12 => ?_) ?_
        · have h := h12
          clear h12
          refine iter_sim (fun s w t => ∃ (t6 : Int) (ws13 : List Nat), (t6, (List.map nf ws13)) = t ∧ s = (t6, ()) ∧ Ho w0 w ((cl r3 [.int .i64 q0_0, .int .i64 q0_0, .slice (some ⟨r4, 0, none⟩) (((IntKind.i64.wrap (q0_0 * q0_0))).toNat) (((IntKind.i64.wrap (q0_0 * q0_0))).toNat)] N.t_Matrix) :: (sl (some ⟨r4, 0, none⟩) (((IntKind.i64.wrap (q0_0 * q0_0))).toNat) (((IntKind.i64.wrap (q0_0 * q0_0))).toNat) (List.map (Value.float .f64) ws13) N.t_float64) :: (cl r2 [.int .i64 0, .int .i64 0, .slice none 0 0] N.t_Matrix) :: (cl r1 [.int .i64 q0_0, .slice q0_1 q0_1l q0_1c, .slice q0_2 q0_2l q0_2c] N.t_Factor) :: L)) ?_ h ⟨_, _, rfl, rfl, hS⟩
          clear h hS
          rintro s w t X q ⟨t6, ws13, rfl, rfl, hS⟩ h hX hO
          unfold T_girderref13_Inverse_b7 at h
          try dsimp only
          refine ⟨_, (hS.cel mp3 rfl), ?_⟩
          refine cond_s h ?_ ?_ <;> clear h <;> intro hc h
          · refine ⟨_, (hS.cel mp3 rfl), ?_⟩
            replace h := bnd h
            obtain ⟨t8, ht8, h⟩ := h
            obtain ⟨rfl, kt8⟩ := mkF ht8
            clear ht8
            refine mk_s (enc := (Value.float .f64)) hS kt8 rfl ?_; clear hS kt8; intro r14 w hS
            replace h := bnd h
            obtain ⟨t9, ht9, h⟩ := h
            obtain ⟨z15, rfl, q16x, q16l, q16r⟩ := atF ht9
            clear ht9
            refine idy_s ((Ent.sl mp0).now (fun _ h => h) hS) q16x q16l q16r ?_
            replace h := bnd h
            obtain ⟨t10, ht10, h⟩ := h
            obtain rfl := setF ht10
            clear ht10
            refine sto_s hS rfl q16r ?_; clear hS; intro w hS
            refine ⟨_, (hS.cel mp4 rfl), ?_⟩
            refine ⟨_, _, _, (hS.cel mp4 rfl), ?_⟩
            refine ⟨_, _, _, (hS.cel mp4 rfl), ?_⟩
            replace h := bnd h
            obtain ⟨⟨t11, t12⟩, ho11, h⟩ := h
            refine wk_girderref13_Solve H hS (hq0_1.mono tl5) (hq0_2.mono tl5) (Ent.sl mp0) ho11 ?_; clear hS ho11; rintro a18 m18 c18 ws18 w rfl hS
            refine ⟨_, _, _, _, rfl, ?_⟩
            replace h := bnd h
            obtain ⟨o20, h20, c20⟩ := h
            refine cutM_i (fun s w => ∃ (ws19 : List Nat), (List.map nf ws19) = o20 ∧ s = (()) ∧ Ho w0 w ((cl r3 [.int .i64 q0_0, .int .i64 q0_0, .slice (some ⟨r4, 0, none⟩) (((IntKind.i64.wrap (q0_0 * q0_0))).toNat) (((IntKind.i64.wrap (q0_0 * q0_0))).toNat)] N.t_Matrix) :: (sl (some ⟨r4, 0, none⟩) (((IntKind.i64.wrap (q0_0 * q0_0))).toNat) (((IntKind.i64.wrap (q0_0 * q0_0))).toNat) (List.map (Value.float .f64) ws19) N.t_float64) :: (cl r2 [.int .i64 0, .int .i64 0, .slice none 0 0] N.t_Matrix) :: (cl r1 [.int .i64 q0_0, .slice q0_1 q0_1l q0_1c, .slice q0_2 q0_2l q0_2c] N.t_Factor) :: L)) (fun J20 hJ20 => ?_) ?_
            · have h := h20
              clear h20
              refine iter_sim (fun s w t => ∃ (t14 : Int) (ws21 : List Nat), (t14, (List.map nf ws21)) = t ∧ s = (t14, ()) ∧ Ho w0 w ((sl a18 m18 c18 (List.map (Value.float .f64) ws18) N.t_float64) :: (cl r3 [.int .i64 q0_0, .int .i64 q0_0, .slice (some ⟨r4, 0, none⟩) (((IntKind.i64.wrap (q0_0 * q0_0))).toNat) (((IntKind.i64.wrap (q0_0 * q0_0))).toNat)] N.t_Matrix) :: (sl (some ⟨r4, 0, none⟩) (((IntKind.i64.wrap (q0_0 * q0_0))).toNat) (((IntKind.i64.wrap (q0_0 * q0_0))).toNat) (List.map (Value.float .f64) ws21) N.t_float64) :: (cl r2 [.int .i64 0, .int .i64 0, .slice none 0 0] N.t_Matrix) :: (cl r1 [.int .i64 q0_0, .slice q0_1 q0_1l q0_1c, .slice q0_2 q0_2l q0_2c] N.t_Factor) :: L)) ?_ h ⟨_, _, rfl, rfl, (hS.pick (A := [_, _, _, _, _, _]) [0, 1, 1, 1, 1] rfl)⟩
              clear h hS
              rintro s w t X q ⟨t14, ws21, rfl, rfl, hS⟩ h hX hO
              unfold T_girderref13_Inverse_b9 at h
              try dsimp only
              refine ⟨_, (hS.cel mp4 rfl), ?_⟩
              refine cond_s h ?_ ?_ <;> clear h <;> intro hc h
              · refine optM_s ?_
                refine ⟨_, _, _, (hS.cel mp1 rfl), ?_⟩
                refine ⟨_, (hS.cel mp4 rfl), ?_⟩
                replace h := bnd h
                obtain ⟨t16, ht16, h⟩ := h
                obtain ⟨z22, rfl, q23x, q23l, q23r⟩ := atF ht16
                clear ht16
                refine idx_s ((Ent.sl mp0).now (fun _ h => h) hS) q23x q23l q23r ?_; intro b24 hb24
                refine ⟨_, rd_get ((Ent.sl mp0).now (fun _ h => h) hS) hb24 q23x, ?_⟩
                replace h := bnd h
                obtain ⟨t17, ht17, h⟩ := h
                obtain ⟨z25, rfl, q26x, q26l, q26r⟩ := atF ht17
                clear ht17
                refine idx_s ((Ent.sl mp2).now (fun _ h => h) hS) q26x q26l q26r ?_; intro b27 hb27
                refine drM_s hS ?_; clear hS; intro w hS
                replace hS := ro2 hS
                replace h := bnd h
                obtain ⟨t18, ht18, h⟩ := h
                obtain rfl := setF ht18
                clear ht18
                refine sto_s hS hb27 q26r ?_; clear hS; intro w hS
                refine drM_s hS ?_; clear hS; intro w hS
                obtain rfl := some_inj h
                exact hX _ rfl _ _ ⟨_, _, rfl, rfl, (hS.pick (A := [_, _, _, _, _]) [1, 1, 0, 0, 0] rfl)⟩
              · obtain rfl := some_inj h
                have h := congrArg some (hO _ rfl)
                obtain rfl := some_inj h
                exact hJ20 _ _ ⟨_, rfl, rfl, (hS.pick (A := [_, _, _, _, _]) [1, 1, 1, 1] rfl)⟩
            · clear h20 hS
              rintro s w ⟨ws19, rfl, rfl, hS⟩
              have h := c20
              clear c20
              try dsimp only
              obtain rfl := some_inj h
              exact hX _ rfl _ _ ⟨_, _, rfl, rfl, hS⟩
          · obtain rfl := some_inj h
            have h := congrArg some (hO _ rfl)
            obtain rfl := some_inj h
            exact hJ12 _ _ ⟨_, rfl, rfl, (hS.pick (A := [_, _, _, _]) [0, 0, 0] rfl)⟩
        · clear h12 hS
          rintro s w ⟨ws11, rfl, rfl, hS⟩
          have h := c12
          clear c12
          try dsimp only
          refine optM_s ?_
          refine ⟨_, (hS.cel mp0 rfl), ?_⟩
          refine ⟨_, (hS.cel mp0 rfl), ?_⟩
          refine ⟨_, _, _, (hS.cel mp0 rfl), ?_⟩
          replace hS := ro2 hS
          refine stc_s hS rfl rfl ?_; clear hS; intro w hS
          refine stc_s hS rfl rfl ?_; clear hS; intro w hS
          refine stc_s hS rfl rfl ?_; clear hS; intro w hS
          refine ⟨_, (hS.cel mp0 rfl), ?_⟩
          refine ⟨_, (hS.cel mp0 rfl), ?_⟩
          refine ⟨_, _, _, (hS.cel mp0 rfl), ?_⟩
          have h := some_inj h
          cases h
          exact hK _ _ _ _ _ rfl (hS.pick (A := [_, _, _]) [2] rfl)

theorem wk_girderkit_SameMatrix {N : Nums} {P : Program} (H : AllOk N P) {w0 w : World} {L : List It} {q0_0 : Int} {q0_1 : Int} {q0_2 : Option Addr} {q0_2l q0_2c : Nat} {ws0_2 : List Nat} {q1_0 : Int} {q1_1 : Int} {q1_2 : Option Addr} {q1_2l q1_2c : Nat} {ws1_2 : List Nat} {u0 : Bool} (hS : Ho w0 w L) (hq0_2 : Ent L (rdA (List.map (Value.float .f64) ws0_2) q0_2 q0_2l q0_2c)) (hq1_2 : Ent L (rdA (List.map (Value.float .f64) ws1_2) q1_2 q1_2l q1_2c)) (hx : T_girderkit_SameMatrix q0_0 q0_1 (List.map nf ws0_2) q1_0 q1_1 (List.map nf ws1_2) = some u0) {K : Value → World → Prop} (hK : ∀  (w1 : World), Ho w0 w1 (L) → K (.bool u0) w1) : CallsX P N.f_girderkit_SameMatrix #[.agg #[.int .i64 q0_0, .int .i64 q0_1, .slice q0_2 q0_2l q0_2c], .agg #[.int .i64 q1_0, .int .i64 q1_1, .slice q1_2 q1_2l q1_2c]] w K := by
  refine H.girderkit_SameMatrix q0_0 q0_1 q0_2 q0_2l q0_2c q1_0 q1_1 q1_2 q1_2l q1_2c w _ ?_
  unfold S_girderkit_SameMatrix
  unfold T_girderkit_SameMatrix at hx
  have h := hx
  clear hx
  try dsimp only
  refine newM_s hS ?_; clear hS; intro r1 w hS
  refine newM_s hS ?_; clear hS; intro r2 w hS
  refine ⟨_, (hS.cel mp1 rfl), ?_⟩
  refine ⟨_, (hS.cel mp0 rfl), ?_⟩
  refine cond_s h ?_ ?_ <;> clear h <;> intro hc h
  · refine ⟨_, (hS.cel mp1 rfl), ?_⟩
    refine ⟨_, (hS.cel mp0 rfl), ?_⟩
    refine cond_s h ?_ ?_ <;> clear h <;> intro hc h
    · refine ⟨_, _, _, (hS.cel mp1 rfl), ?_⟩
      refine ⟨_, _, _, (hS.cel mp0 rfl), ?_⟩
      replace h := bnd h
      obtain ⟨t1, ht1, h⟩ := h
      refine wk_girderkit_SameReals H hS (hq0_2.mono tl2) (hq1_2.mono tl2) ht1 ?_; clear hS ht1; rintro w hS
      refine ⟨_, rfl, ?_⟩
      have h := some_inj h
      cases h
      exact hK _ (hS.pick (A := [_, _]) [] rfl)
    · have h := some_inj h
      cases h
      exact hK _ (hS.pick (A := [_, _]) [] rfl)
  · have h := some_inj h
    cases h
    exact hK _ (hS.pick (A := [_, _]) [] rfl)

theorem wk_girderkit_SameFactor {N : Nums} {P : Program} (H : AllOk N P) {w0 w : World} {L : List It} {q0_0 : Int} {q0_1 : Option Addr} {q0_1l q0_1c : Nat} {ws0_1 : List Nat} {q0_2 : Option Addr} {q0_2l q0_2c : Nat} {ws0_2 : List Nat} {q1_0 : Int} {q1_1 : Option Addr} {q1_1l q1_1c : Nat} {ws1_1 : List Nat} {q1_2 : Option Addr} {q1_2l q1_2c : Nat} {ws1_2 : List Nat} {u0 : Bool} (hS : Ho w0 w L) (hq0_1 : Ent L (rdA (List.map (Value.float .f64) ws0_1) q0_1 q0_1l q0_1c)) (hq0_2 : Ent L (rdA (List.map (Value.float .f64) ws0_2) q0_2 q0_2l q0_2c)) (hq1_1 : Ent L (rdA (List.map (Value.float .f64) ws1_1) q1_1 q1_1l q1_1c)) (hq1_2 : Ent L (rdA (List.map (Value.float .f64) ws1_2) q1_2 q1_2l q1_2c)) (hx : T_girderkit_SameFactor q0_0 (List.map nf ws0_1) (List.map nf ws0_2) q1_0 (List.map nf ws1_1) (List.map nf ws1_2) = some u0) {K : Value → World → Prop} (hK : ∀  (w1 : World), Ho w0 w1 (L) → K (.bool u0) w1) : CallsX P N.f_girderkit_SameFactor #[.agg #[.int .i64 q0_0, .slice q0_1 q0_1l q0_1c, .slice q0_2 q0_2l q0_2c], .agg #[.int .i64 q1_0, .slice q1_1 q1_1l q1_1c, .slice q1_2 q1_2l q1_2c]] w K := by
  refine H.girderkit_SameFactor q0_0 q0_1 q0_1l q0_1c q0_2 q0_2l q0_2c q1_0 q1_1 q1_1l q1_1c q1_2 q1_2l q1_2c w _ ?_
  unfold S_girderkit_SameFactor
  unfold T_girderkit_SameFactor at hx
  have h := hx
  clear hx
  try dsimp only
  refine newM_s hS ?_; clear hS; intro r1 w hS
  refine newM_s hS ?_; clear hS; intro r2 w hS
  refine ⟨_, (hS.cel mp1 rfl), ?_⟩
  refine ⟨_, (hS.cel mp0 rfl), ?_⟩
  refine cond_s h ?_ ?_ <;> clear h <;> intro hc h
  · refine ⟨_, _, _, (hS.cel mp1 rfl), ?_⟩
    refine ⟨_, _, _, (hS.cel mp0 rfl), ?_⟩
    replace h := bnd h
    obtain ⟨t1, ht1, h⟩ := h
    refine wk_girderkit_SameReals H hS (hq0_1.mono tl2) (hq1_1.mono tl2) ht1 ?_; clear hS ht1; rintro w hS
    refine ⟨_, rfl, ?_⟩
    refine cond_s h ?_ ?_ <;> clear h <;> intro hc h
    · refine ⟨_, _, _, (hS.cel mp1 rfl), ?_⟩
      refine ⟨_, _, _, (hS.cel mp0 rfl), ?_⟩
      replace h := bnd h
      obtain ⟨t2, ht2, h⟩ := h
      refine wk_girderkit_SameReals H hS (hq0_2.mono tl2) (hq1_2.mono tl2) ht2 ?_; clear hS ht2; rintro w hS
      refine ⟨_, rfl, ?_⟩
      have h := some_inj h
      cases h
      exact hK _ (hS.pick (A := [_, _]) [] rfl)
    · have h := some_inj h
      cases h
      exact hK _ (hS.pick (A := [_, _]) [] rfl)
  · have h := some_inj h
    cases h
    exact hK _ (hS.pick (A := [_, _]) [] rfl)

theorem wk_girderkit_KeptReals {N : Nums} {P : Program} (H : AllOk N P) {w0 w : World} {L : List It} {q0 : Option Addr} {q0l : Nat} {q1 : Option Addr} {q1l q1c : Nat} {ws1 : List Nat} {u0 : Bool} (hS : Ho w0 w L) (hq0 : Ent L (rdA (List.map (Value.float .f64) (ws1 ++ marks)) q0 (q0l + 12) (q0l + 12))) (hq1 : Ent L (rdA (List.map (Value.float .f64) ws1) q1 q1l q1c)) (hx : T_girderkit_KeptReals (List.map nf ws1) (List.map nf ws1) = some u0) {K : Value → World → Prop} (hK : ∀  (w1 : World), Ho w0 w1 (L) → K (.bool u0) w1) : CallsX P N.f_girderkit_KeptReals #[.slice q0 q0l (q0l + 12), .slice q1 q1l q1c] w K := by
  unfold T_girderkit_KeptReals at hx
  have hd : (List.map nf ws1).length ≤ 4294967000 := by
    rcases Nat.lt_or_ge 4294967000 (List.map nf ws1).length with h | h
    · rw [decide_eq_false (by omega)] at hx; cases hx
    · exact h
  rw [decide_eq_true hd] at hx
  have hx := some_inj hx
  subst hx
  have r1 := (hq1.now (fun _ h => h) hS).reals
  have r0 := (hq0.now (fun _ h => h) hS).reals
  have e : q0l = q1l := by have := r1.len; have := r0.len; simp [marks] at this; omega
  subst e
  refine (keptReals_c H r0 r1 (by have := r1.len; simp at hd; omega)).mono ?_
  rintro _ w1 ⟨rfl, h1⟩
  exact hK _ (hS.next h1)

theorem wk_girderkit_KeptFactor {N : Nums} {P : Program} (H : AllOk N P) {w0 w : World} {L : List It} {q0_0 : Int} {q0_1 : Option Addr} {q0_1l : Nat} {q0_2 : Option Addr} {q0_2l : Nat} {q1_0 : Int} {q1_1 : Option Addr} {q1_1l q1_1c : Nat} {ws1_1 : List Nat} {q1_2 : Option Addr} {q1_2l q1_2c : Nat} {ws1_2 : List Nat} {u0 : Bool} (hS : Ho w0 w L) (hq0_1 : Ent L (rdA (List.map (Value.float .f64) (ws1_1 ++ marks)) q0_1 (q0_1l + 12) (q0_1l + 12))) (hq0_2 : Ent L (rdA (List.map (Value.float .f64) (ws1_2 ++ marks)) q0_2 (q0_2l + 12) (q0_2l + 12))) (hq1_1 : Ent L (rdA (List.map (Value.float .f64) ws1_1) q1_1 q1_1l q1_1c)) (hq1_2 : Ent L (rdA (List.map (Value.float .f64) ws1_2) q1_2 q1_2l q1_2c)) (hx : T_girderkit_KeptFactor q0_0 (List.map nf ws1_1) (List.map nf ws1_2) q1_0 (List.map nf ws1_1) (List.map nf ws1_2) = some u0) {K : Value → World → Prop} (hK : ∀  (w1 : World), Ho w0 w1 (L) → K (.bool u0) w1) : CallsX P N.f_girderkit_KeptFactor #[.agg #[.int .i64 q0_0, .slice q0_1 q0_1l (q0_1l + 12), .slice q0_2 q0_2l (q0_2l + 12)], .agg #[.int .i64 q1_0, .slice q1_1 q1_1l q1_1c, .slice q1_2 q1_2l q1_2c]] w K := by
  refine H.girderkit_KeptFactor q0_0 q0_1 q0_1l (q0_1l + 12) q0_2 q0_2l (q0_2l + 12) q1_0 q1_1 q1_1l q1_1c q1_2 q1_2l q1_2c w _ ?_
  unfold S_girderkit_KeptFactor
  unfold T_girderkit_KeptFactor at hx
  have h := hx
  clear hx
  try dsimp only
  refine newM_s hS ?_; clear hS; intro r1 w hS
  refine newM_s hS ?_; clear hS; intro r2 w hS
  refine ⟨_, (hS.cel mp1 rfl), ?_⟩
  refine ⟨_, _, _, (hS.cel mp1 rfl), ?_⟩
  refine ⟨_, _, _, (hS.cel mp1 rfl), ?_⟩
  refine ⟨_, (hS.cel mp0 rfl), ?_⟩
  refine ⟨_, _, _, (hS.cel mp0 rfl), ?_⟩
  refine ⟨_, _, _, (hS.cel mp0 rfl), ?_⟩
  replace h := bnd h
  obtain ⟨t1, ht1, h⟩ := h
  refine wk_girderkit_SameFactor H hS (Ent.lent (hq0_1.mono tl2) rfl rfl) (Ent.lent (hq0_2.mono tl2) rfl rfl) (hq1_1.mono tl2) (hq1_2.mono tl2) ht1 ?_; clear hS ht1; rintro w hS
  refine ⟨_, rfl, ?_⟩
  refine cond_s h ?_ ?_ <;> clear h <;> intro hc h
  · refine ⟨_, _, _, (hS.cel mp1 rfl), ?_⟩
    refine ⟨_, _, _, (hS.cel mp0 rfl), ?_⟩
    replace h := bnd h
    obtain ⟨t2, ht2, h⟩ := h
    refine wk_girderkit_KeptReals H hS (hq0_1.mono tl2) (hq1_1.mono tl2) ht2 ?_; clear hS ht2; rintro w hS
    refine ⟨_, rfl, ?_⟩
    refine cond_s h ?_ ?_ <;> clear h <;> intro hc h
    · refine ⟨_, _, _, (hS.cel mp1 rfl), ?_⟩
      refine ⟨_, _, _, (hS.cel mp0 rfl), ?_⟩
      replace h := bnd h
      obtain ⟨t3, ht3, h⟩ := h
      refine wk_girderkit_KeptReals H hS (hq0_2.mono tl2) (hq1_2.mono tl2) ht3 ?_; clear hS ht3; rintro w hS
      refine ⟨_, rfl, ?_⟩
      have h := some_inj h
      cases h
      exact hK _ (hS.pick (A := [_, _]) [] rfl)
    · have h := some_inj h
      cases h
      exact hK _ (hS.pick (A := [_, _]) [] rfl)
  · have h := some_inj h
    cases h
    exact hK _ (hS.pick (A := [_, _]) [] rfl)

theorem wk_girderlaw13_two {N : Nums} {P : Program} (H : AllOk N P) {w0 w : World} {L : List It}  {u0 : Int} {u1 : List Nat} {u2 : List Nat} (hS : Ho w0 w L)  (hx : T_girderlaw13_two  = some (u0, u1, u2)) {K : Value → World → Prop} (hK : ∀ (a1 : Option Addr) (n1 c1 : Nat) (rws1 : List Nat) (a2 : Option Addr) (n2 c2 : Nat) (rws2 : List Nat) (w1 : World), List.map nf rws1 = u1 → List.map nf rws2 = u2 → Ho w0 w1 ((sl a1 n1 c1 (List.map (Value.float .f64) rws1) N.t_float64) :: (sl a2 n2 c2 (List.map (Value.float .f64) rws2) N.t_float64) :: L) → K (.agg #[.int .i64 u0, .slice a1 n1 c1, .slice a2 n2 c2]) w1) : CallsX P N.f_girderlaw13_two #[] w K := by
  refine H.girderlaw13_two  w _ ?_
  unfold S_girderlaw13_two
  unfold T_girderlaw13_two at hx
  have h := hx
  clear hx
  try dsimp only
  refine newM_s hS ?_; clear hS; intro r1 w hS
  replace h := bnd h
  obtain ⟨t1, ht1, h⟩ := h
  obtain rfl : (List.map nf ([4611686018427387904] : List Nat)) = t1 := some_inj ht1
  clear ht1
  refine lit_s (ks := [4611686018427387904]) (enc := (Value.float .f64)) (m := 1) hS rfl rfl ?_; clear hS; intro r2 w hS
  replace h := bnd h
  obtain ⟨t2, ht2, h⟩ := h
  obtain rfl : (List.map nf ([4607182418800017408, 4616189618054758400] : List Nat)) = t2 := some_inj ht2
  clear ht2
  refine lit_s (ks := [4607182418800017408, 4616189618054758400]) (enc := (Value.float .f64)) (m := 2) hS rfl rfl ?_; clear hS; intro r3 w hS
  replace hS := ro2 hS
  refine stc_s hS rfl rfl ?_; clear hS; intro w hS
  refine stc_s hS rfl rfl ?_; clear hS; intro w hS
  refine stc_s hS rfl rfl ?_; clear hS; intro w hS
  refine ⟨_, (hS.cel mp0 rfl), ?_⟩
  refine ⟨_, _, _, (hS.cel mp0 rfl), ?_⟩
  refine ⟨_, _, _, (hS.cel mp0 rfl), ?_⟩
  have h := some_inj h
  cases h
  exact hK _ _ _ _ _ _ _ _ _ rfl rfl (hS.pick (A := [_, _, _]) [2, 1] rfl)

theorem wk_girderlaw13_awake {N : Nums} {P : Program} (H : AllOk N P) {w0 w : World} {L : List It}  {u0 : Bool} (hS : Ho w0 w L)  (hx : T_girderlaw13_awake  = some u0) {K : Value → World → Prop} (hK : ∀  (w1 : World), Ho w0 w1 (L) → K (.bool u0) w1) : CallsX P N.f_girderlaw13_awake #[] w K := by
  refine H.girderlaw13_awake  w _ ?_
  unfold S_girderlaw13_awake
  unfold T_girderlaw13_awake at hx
  have h := hx
  clear hx
  try dsimp only
  replace h := bnd h
  obtain ⟨⟨t1, t2, t3⟩, ho1, h⟩ := h
  refine wk_girderlaw13_two H hS  ho1 ?_; clear hS ho1; rintro a1 m1 c1 ws1 a2 m2 c2 ws2 w rfl rfl hS
  refine ⟨_, _, _, _, _, _, _, rfl, ?_⟩
  replace h := bnd h
  obtain ⟨t4, ht4, h⟩ := h
  obtain rfl : (List.map nf ([4613937818241073152, 4621819117588971520] : List Nat)) = t4 := some_inj ht4
  clear ht4
  refine lit_s (ks := [4613937818241073152, 4621819117588971520]) (enc := (Value.float .f64)) (m := 2) hS rfl rfl ?_; clear hS; intro r3 w hS
  replace h := bnd h
  obtain ⟨⟨t5, t6⟩, ho5, h⟩ := h
  refine wk_solve_Solve H hS (Ent.sl mp1) (Ent.sl mp2) (Ent.sl mp0) ho5 ?_; clear hS ho5; rintro a4 m4 c4 ws4 w rfl hS
  refine ⟨_, _, _, _, rfl, ?_⟩
  replace h := bnd h
  obtain ⟨⟨t7, t8, t9⟩, ho7, h⟩ := h
  refine wk_girderlaw13_two H hS  ho7 ?_; clear hS ho7; rintro a5 m5 c5 ws5 a6 m6 c6 ws6 w rfl rfl hS
  refine ⟨_, _, _, _, _, _, _, rfl, ?_⟩
  replace h := bnd h
  obtain ⟨⟨t10, t11, t12, t13⟩, ho10, h⟩ := h
  refine wk_solve_Inverse H hS (Ent.sl mp0) (Ent.sl mp1) ho10 ?_; clear hS ho10; rintro a7 m7 c7 ws7 w rfl hS
  refine ⟨_, _, _, _, _, _, rfl, ?_⟩
  refine newM_s hS ?_; clear hS; intro r8 w hS
  refine stc_s hS rfl rfl ?_; clear hS; intro w hS
  refine stc_s hS rfl rfl ?_; clear hS; intro w hS
  refine stc_s hS rfl rfl ?_; clear hS; intro w hS
  replace h := bnd h
  obtain ⟨t14, ht14, h⟩ := h
  obtain rfl : (List.map nf ([4607182418800017408, 4607182418800017408] : List Nat)) = t14 := some_inj ht14
  clear ht14
  refine lit_s (ks := [4607182418800017408, 4607182418800017408]) (enc := (Value.float .f64)) (m := 2) hS rfl rfl ?_; clear hS; intro r9 w hS
  replace h := bnd h
  obtain ⟨t15, ht15, h⟩ := h
  refine wk_girderlaw13_is H hS (Ent.sl mp5) (Ent.sl mp0) ht15 ?_; clear hS ht15; rintro w hS
  refine ⟨_, rfl, ?_⟩
  refine cond_s h ?_ ?_ <;> clear h <;> intro hc h
  · refine cond_s h ?_ ?_ <;> clear h <;> intro hc h
    · refine ⟨_, _, _, (hS.cel mp1 rfl), ?_⟩
      replace h := bnd h
      obtain ⟨t16, ht16, h⟩ := h
      obtain rfl : (List.map nf ([4611686018427387904, 13826050856027422720, 13826050856027422720, 4598175219545276416] : List Nat)) = t16 := some_inj ht16
      clear ht16
      refine lit_s (ks := [4611686018427387904, 13826050856027422720, 13826050856027422720, 4598175219545276416]) (enc := (Value.float .f64)) (m := 4) hS rfl rfl ?_; clear hS; intro r10 w hS
      replace h := bnd h
      obtain ⟨t17, ht17, h⟩ := h
      refine wk_girderkit_SameReals H hS (Ent.sl mp3) (Ent.sl mp0) ht17 ?_; clear hS ht17; rintro w hS
      refine ⟨_, rfl, ?_⟩
      have h := some_inj h
      cases h
      exact hK _ (hS.pick (A := [_, _, _, _, _, _, _, _, _, _]) [] rfl)
    · have h := some_inj h
      cases h
      exact hK _ (hS.pick (A := [_, _, _, _, _, _, _, _, _]) [] rfl)
  · have h := some_inj h
    cases h
    exact hK _ (hS.pick (A := [_, _, _, _, _, _, _, _, _]) [] rfl)

theorem wk_girderlaw13_SolveTells {N : Nums} {P : Program} (H : AllOk N P) {w0 w : World} {L : List It} {q0_0 : Int} {q0_1 : Option Addr} {q0_1l q0_1c : Nat} {ws0_1 : List Nat} {q0_2 : Option Addr} {q0_2l q0_2c : Nat} {ws0_2 : List Nat} {q1 : Option Addr} {q1l q1c : Nat} {ws1 : List Nat} {u0 : Bool} (hS : Ho w0 w L) (hq0_1 : Ent L (rdA (List.map (Value.float .f64) ws0_1) q0_1 q0_1l q0_1c)) (hq0_2 : Ent L (rdA (List.map (Value.float .f64) ws0_2) q0_2 q0_2l q0_2c)) (hq1 : Ent L (rdA (List.map (Value.float .f64) ws1) q1 q1l q1c)) (hx : T_girderlaw13_SolveTells q0_0 (List.map nf ws0_1) (List.map nf ws0_2) (List.map nf ws1) = some u0) {K : Value → World → Prop} (hK : ∀  (w1 : World), Ho w0 w1 (L) → K (.bool u0) w1) : CallsX P N.f_girderlaw13_SolveTells #[.agg #[.int .i64 q0_0, .slice q0_1 q0_1l q0_1c, .slice q0_2 q0_2l q0_2c], .slice q1 q1l q1c] w K := by
  refine H.girderlaw13_SolveTells q0_0 q0_1 q0_1l q0_1c q0_2 q0_2l q0_2c q1 q1l q1c w _ ?_
  unfold S_girderlaw13_SolveTells
  unfold T_girderlaw13_SolveTells at hx
  have h := hx
  clear hx
  try dsimp only
  refine newM_s hS ?_; clear hS; intro r1 w hS
  refine ⟨_, (hS.cel mp0 rfl), ?_⟩
  refine ⟨_, _, _, (hS.cel mp0 rfl), ?_⟩
  refine ⟨_, _, _, (hS.cel mp0 rfl), ?_⟩
  replace h := bnd h
  obtain ⟨⟨t1, t2, t3⟩, ho1, h⟩ := h
  refine wk_girderkit_LentFactor H hS (hq0_1.mono tl1) (hq0_2.mono tl1) ho1 ?_; clear hS ho1; rintro r2 r3 w rfl rfl hS
  refine ⟨_, _, _, _, _, _, _, rfl, ?_⟩
  replace h := bnd h
  obtain ⟨t4, ht4, h⟩ := h
  refine wk_girderkit_LentReals H hS (hq1.mono tl3) ht4 ?_; clear hS ht4; rintro r4 w rfl hS
  refine ⟨_, _, _, rfl, ?_⟩
  refine newM_s hS ?_; clear hS; intro r5 w hS
  refine stc_s hS rfl rfl ?_; clear hS; intro w hS
  refine stc_s hS rfl rfl ?_; clear hS; intro w hS
  refine stc_s hS rfl rfl ?_; clear hS; intro w hS
  refine ⟨_, (hS.cel mp0 rfl), ?_⟩
  refine ⟨_, _, _, (hS.cel mp0 rfl), ?_⟩
  refine ⟨_, _, _, (hS.cel mp0 rfl), ?_⟩
  replace h := bnd h
  obtain ⟨⟨t5, t6⟩, ho5, h⟩ := h
  refine wk_solve_Forward H hS (Ent.lent (Ent.sl mp2) rfl rfl) (Ent.lent (Ent.sl mp3) rfl rfl) (Ent.lent (Ent.sl mp1) rfl rfl) ho5 ?_; clear hS ho5; rintro a6 m6 c6 ws6 w rfl hS
  refine ⟨_, _, _, _, rfl, ?_⟩
  refine ⟨_, (hS.cel mp5 rfl), ?_⟩
  refine ⟨_, _, _, (hS.cel mp5 rfl), ?_⟩
  refine ⟨_, _, _, (hS.cel mp5 rfl), ?_⟩
  replace h := bnd h
  obtain ⟨⟨t7, t8⟩, ho7, h⟩ := h
  refine wk_girderref13_Forward H hS (hq0_1.mono tl6) (hq0_2.mono tl6) (hq1.mono tl6) ho7 ?_; clear hS ho7; rintro a7 m7 c7 ws7 w rfl hS
  refine ⟨_, _, _, _, rfl, ?_⟩
  replace h := bnd h
  obtain ⟨t9, ht9, h⟩ := h
  refine wk_girderlaw13_is H hS (Ent.sl mp1) (Ent.sl mp0) ht9 ?_; clear hS ht9; rintro w hS
  refine ⟨_, rfl, ?_⟩
  refine cond_s h ?_ ?_ <;> clear h <;> intro hc h
  · have h := some_inj h
    cases h
    exact hK _ (hS.pick (A := [_, _, _, _, _, _, _]) [] rfl)
  · refine ⟨_, (hS.cel mp2 rfl), ?_⟩
    refine ⟨_, _, _, (hS.cel mp2 rfl), ?_⟩
    refine ⟨_, _, _, (hS.cel mp2 rfl), ?_⟩
    replace h := bnd h
    obtain ⟨⟨t10, t11⟩, ho10, h⟩ := h
    refine wk_solve_Back H hS (Ent.lent (Ent.sl mp4) rfl rfl) (Ent.lent (Ent.sl mp5) rfl rfl) (Ent.lent (Ent.sl mp3) rfl rfl) ho10 ?_; clear hS ho10; rintro a8 m8 c8 ws8 w rfl hS
    refine ⟨_, _, _, _, rfl, ?_⟩
    refine ⟨_, (hS.cel mp7 rfl), ?_⟩
    refine ⟨_, _, _, (hS.cel mp7 rfl), ?_⟩
    refine ⟨_, _, _, (hS.cel mp7 rfl), ?_⟩
    replace h := bnd h
    obtain ⟨⟨t12, t13⟩, ho12, h⟩ := h
    refine wk_girderref13_Back H hS (hq0_1.mono tl8) (hq0_2.mono tl8) (hq1.mono tl8) ho12 ?_; clear hS ho12; rintro a9 m9 c9 ws9 w rfl hS
    refine ⟨_, _, _, _, rfl, ?_⟩
    replace h := bnd h
    obtain ⟨t14, ht14, h⟩ := h
    refine wk_girderlaw13_is H hS (Ent.sl mp1) (Ent.sl mp0) ht14 ?_; clear hS ht14; rintro w hS
    refine ⟨_, rfl, ?_⟩
    refine cond_s h ?_ ?_ <;> clear h <;> intro hc h
    · have h := some_inj h
      cases h
      exact hK _ (hS.pick (A := [_, _, _, _, _, _, _, _, _]) [] rfl)
    · refine ⟨_, (hS.cel mp4 rfl), ?_⟩
      refine ⟨_, _, _, (hS.cel mp4 rfl), ?_⟩
      refine ⟨_, _, _, (hS.cel mp4 rfl), ?_⟩
      replace h := bnd h
      obtain ⟨⟨t15, t16⟩, ho15, h⟩ := h
      refine wk_solve_Solve H hS (Ent.lent (Ent.sl mp6) rfl rfl) (Ent.lent (Ent.sl mp7) rfl rfl) (Ent.lent (Ent.sl mp5) rfl rfl) ho15 ?_; clear hS ho15; rintro a10 m10 c10 ws10 w rfl hS
      refine ⟨_, _, _, _, rfl, ?_⟩
      refine ⟨_, (hS.cel mp9 rfl), ?_⟩
      refine ⟨_, _, _, (hS.cel mp9 rfl), ?_⟩
      refine ⟨_, _, _, (hS.cel mp9 rfl), ?_⟩
      replace h := bnd h
      obtain ⟨⟨t17, t18⟩, ho17, h⟩ := h
      refine wk_girderref13_Solve H hS (hq0_1.mono tl10) (hq0_2.mono tl10) (hq1.mono tl10) ho17 ?_; clear hS ho17; rintro a11 m11 c11 ws11 w rfl hS
      refine ⟨_, _, _, _, rfl, ?_⟩
      refine ⟨_, (hS.cel mp6 rfl), ?_⟩
      refine ⟨_, _, _, (hS.cel mp6 rfl), ?_⟩
      refine ⟨_, _, _, (hS.cel mp6 rfl), ?_⟩
      replace h := bnd h
      obtain ⟨⟨t19, t20, t21, t22⟩, ho19, h⟩ := h
      refine wk_solve_Inverse H hS (Ent.lent (Ent.sl mp8) rfl rfl) (Ent.lent (Ent.sl mp9) rfl rfl) ho19 ?_; clear hS ho19; rintro a12 m12 c12 ws12 w rfl hS
      refine ⟨_, _, _, _, _, _, rfl, ?_⟩
      refine newM_s hS ?_; clear hS; intro r13 w hS
      refine stc_s hS rfl rfl ?_; clear hS; intro w hS
      refine stc_s hS rfl rfl ?_; clear hS; intro w hS
      refine stc_s hS rfl rfl ?_; clear hS; intro w hS
      refine ⟨_, (hS.cel mp12 rfl), ?_⟩
      refine ⟨_, _, _, (hS.cel mp12 rfl), ?_⟩
      refine ⟨_, _, _, (hS.cel mp12 rfl), ?_⟩
      replace h := bnd h
      obtain ⟨⟨t23, t24, t25, t26⟩, ho23, h⟩ := h
      refine wk_girderref13_Inverse H hS (hq0_1.mono tl13) (hq0_2.mono tl13) ho23 ?_; clear hS ho23; rintro a14 m14 c14 ws14 w rfl hS
      refine ⟨_, _, _, _, _, _, rfl, ?_⟩
      refine newM_s hS ?_; clear hS; intro r15 w hS
      refine stc_s hS rfl rfl ?_; clear hS; intro w hS
      refine stc_s hS rfl rfl ?_; clear hS; intro w hS
      refine stc_s hS rfl rfl ?_; clear hS; intro w hS
      replace h := bnd h
      obtain ⟨t27, ht27, h⟩ := h
      refine wk_girderlaw13_is H hS (Ent.sl mp5) (Ent.sl mp4) ht27 ?_; clear hS ht27; rintro w hS
      refine ⟨_, rfl, ?_⟩
      refine cond_s h ?_ ?_ <;> clear h <;> intro hc h
      · refine cond_s h ?_ ?_ <;> clear h <;> intro hc h
        · refine ⟨_, (hS.cel mp2 rfl), ?_⟩
          refine ⟨_, (hS.cel mp2 rfl), ?_⟩
          refine ⟨_, _, _, (hS.cel mp2 rfl), ?_⟩
          refine ⟨_, (hS.cel mp0 rfl), ?_⟩
          refine ⟨_, (hS.cel mp0 rfl), ?_⟩
          refine ⟨_, _, _, (hS.cel mp0 rfl), ?_⟩
          replace h := bnd h
          obtain ⟨t28, ht28, h⟩ := h
          refine wk_girderkit_SameMatrix H hS (Ent.sl mp3) (Ent.sl mp1) ht28 ?_; clear hS ht28; rintro w hS
          refine ⟨_, rfl, ?_⟩
          refine cond_s h ?_ ?_ <;> clear h <;> intro hc h
          · refine ⟨_, (hS.cel mp10 rfl), ?_⟩
            refine ⟨_, _, _, (hS.cel mp10 rfl), ?_⟩
            refine ⟨_, _, _, (hS.cel mp10 rfl), ?_⟩
            refine ⟨_, (hS.cel mp14 rfl), ?_⟩
            refine ⟨_, _, _, (hS.cel mp14 rfl), ?_⟩
            refine ⟨_, _, _, (hS.cel mp14 rfl), ?_⟩
            replace h := bnd h
            obtain ⟨t29, ht29, h⟩ := h
            refine wk_girderkit_KeptFactor H hS (Ent.sl mp12) (Ent.sl mp13) (hq0_1.mono tl15) (hq0_2.mono tl15) ht29 ?_; clear hS ht29; rintro w hS
            refine ⟨_, rfl, ?_⟩
            refine cond_s h ?_ ?_ <;> clear h <;> intro hc h
            · replace h := bnd h
              obtain ⟨t30, ht30, h⟩ := h
              refine wk_girderkit_KeptReals H hS (Ent.sl mp11) (hq1.mono tl15) ht30 ?_; clear hS ht30; rintro w hS
              refine ⟨_, rfl, ?_⟩
              refine cond_s h ?_ ?_ <;> clear h <;> intro hc h
              · replace h := bnd h
                obtain ⟨t31, ht31, h⟩ := h
                refine wk_girderlaw13_awake H hS  ht31 ?_; clear hS ht31; rintro w hS
                refine ⟨_, rfl, ?_⟩
                have h := some_inj h
                cases h
                exact hK _ (hS.pick (A := [_, _, _, _, _, _, _, _, _, _, _, _, _, _, _]) [] rfl)
              · have h := some_inj h
                cases h
                exact hK _ (hS.pick (A := [_, _, _, _, _, _, _, _, _, _, _, _, _, _, _]) [] rfl)
            · have h := some_inj h
              cases h
              exact hK _ (hS.pick (A := [_, _, _, _, _, _, _, _, _, _, _, _, _, _, _]) [] rfl)
          · have h := some_inj h
            cases h
            exact hK _ (hS.pick (A := [_, _, _, _, _, _, _, _, _, _, _, _, _, _, _]) [] rfl)
        · have h := some_inj h
          cases h
          exact hK _ (hS.pick (A := [_, _, _, _, _, _, _, _, _, _, _, _, _, _, _]) [] rfl)
      · have h := some_inj h
        cases h
        exact hK _ (hS.pick (A := [_, _, _, _, _, _, _, _, _, _, _, _, _, _, _]) [] rfl)

theorem wk_girderkit_Pick {N : Nums} {P : Program} (H : AllOk N P) {w0 w : World} {L : List It} {q0 : Int} {q1 : Int} {u0 : Int} (hS : Ho w0 w L)  (hx : T_girderkit_Pick q0 q1 = some u0) {K : Value → World → Prop} (hK : ∀  (w1 : World), Ho w0 w1 (L) → K (.int .i64 u0) w1) : CallsX P N.f_girderkit_Pick #[.int .i64 q0, .int .i64 q1] w K := by
  refine H.girderkit_Pick q0 q1 w _ ?_
  unfold S_girderkit_Pick
  unfold T_girderkit_Pick at hx
  have h := hx
  clear hx
  try dsimp only
  refine cond_s h ?_ ?_ <;> clear h <;> intro hc h
  · have h := some_inj h
    cases h
    exact hK _ hS
  · replace h := bnd h
    obtain ⟨t2, ht2, h⟩ := h
    refine ⟨nz_s ht2, ?_⟩
    clear ht2
    replace h := bnd h
    obtain ⟨o1, h1, c1⟩ := h
    refine cutM_i (fun s w => ∃ (t1 : Int), t1 = o1 ∧ s = (t1, ()) ∧ Ho w0 w (L)) (fun J1 hJ1 => ?_) ?_
    · have h := h1
      clear h1
      refine cond_s h ?_ ?_ <;> clear h <;> intro hc h
      · obtain rfl := some_inj h
        exact hJ1 _ _ ⟨_, rfl, rfl, hS⟩
      · obtain rfl := some_inj h
        exact hJ1 _ _ ⟨_, rfl, rfl, hS⟩
    · clear h1 hS
      rintro s w ⟨t1, rfl, rfl, hS⟩
      have h := c1
      clear c1
      try dsimp only
      have h := some_inj h
      cases h
      exact hK _ hS

theorem wk_girderlaw13_at {N : Nums} {P : Program} (H : AllOk N P) {w0 w : World} {L : List It} {q0 : Option Addr} {q0l q0c : Nat} {l0 : List Int} {q1 : Int} {q2 : Int} {u0 : Int} (hS : Ho w0 w L) (hq0 : Ent L (rdA (List.map (Value.int .i64) l0) q0 q0l q0c)) (hx : T_girderlaw13_at l0 q1 q2 = some u0) {K : Value → World → Prop} (hK : ∀  (w1 : World), Ho w0 w1 (L) → K (.int .i64 u0) w1) : CallsX P N.f_girderlaw13_at #[.slice q0 q0l q0c, .int .i64 q1, .int .i64 q2] w K := by
  refine H.girderlaw13_at q0 q0l q0c q1 q2 w _ ?_
  unfold S_girderlaw13_at
  unfold T_girderlaw13_at at hx
  have h := hx
  clear hx
  try dsimp only
  replace h := bnd h
  obtain ⟨t1, ht1, h⟩ := h
  obtain rfl := lenE ht1 (hq0.now (fun _ h => h) hS)
  clear ht1
  refine cond_s h ?_ ?_ <;> clear h <;> intro hc h
  · have h := some_inj h
    cases h
    exact hK _ hS
  · replace h := bnd h
    obtain ⟨t2, ht2, h⟩ := h
    obtain rfl := lenE ht2 (hq0.now (fun _ h => h) hS)
    clear ht2
    replace h := bnd h
    obtain ⟨t5, ht5, h⟩ := h
    refine ⟨nz_s ht5, ?_⟩
    clear ht5
    replace h := bnd h
    obtain ⟨t3, ht3, h⟩ := h
    obtain ⟨q1x, q1l, q1r⟩ := atE ht3
    clear ht3
    refine idx_s (hq0.now (fun _ h => h) hS) q1x q1l q1r ?_; intro b2 hb2
    refine ⟨_, rd_get (hq0.now (fun _ h => h) hS) hb2 q1x, ?_⟩
    replace h := bnd h
    obtain ⟨t4, ht4, h⟩ := h
    refine wk_girderkit_Pick H hS  ht4 ?_; clear hS ht4; rintro w hS
    refine ⟨_, rfl, ?_⟩
    have h := some_inj h
    cases h
    exact hK _ hS

theorem wk_girderlaw13_whole {N : Nums} {P : Program} (H : AllOk N P) {w0 w : World} {L : List It} {q0 : Int} {q1 : Option Addr} {q1l q1c : Nat} {l1 : List Int} {u0 : Int} {u1 : List Nat} {u2 : List Nat} (hS : Ho w0 w L) (hq1 : Ent L (rdA (List.map (Value.int .i64) l1) q1 q1l q1c)) (hx : T_girderlaw13_whole q0 l1 = some (u0, u1, u2)) {K : Value → World → Prop} (hK : ∀ (a1 : Option Addr) (n1 c1 : Nat) (rws1 : List Nat) (a2 : Option Addr) (n2 c2 : Nat) (rws2 : List Nat) (w1 : World), List.map nf rws1 = u1 → List.map nf rws2 = u2 → Ho w0 w1 ((sl a1 n1 c1 (List.map (Value.float .f64) rws1) N.t_float64) :: (sl a2 n2 c2 (List.map (Value.float .f64) rws2) N.t_float64) :: L) → K (.agg #[.int .i64 u0, .slice a1 n1 c1, .slice a2 n2 c2]) w1) : CallsX P N.f_girderlaw13_whole #[.int .i64 q0, .slice q1 q1l q1c] w K := by
  refine H.girderlaw13_whole q0 q1 q1l q1c w _ ?_
  unfold S_girderlaw13_whole
  unfold T_girderlaw13_whole at hx
  have h := hx
  clear hx
  try dsimp only
  refine newM_s hS ?_; clear hS; intro r1 w hS
  replace h := bnd h
  obtain ⟨t1, ht1, h⟩ := h
  refine wk_girderkit_Pick H hS  ht1 ?_; clear hS ht1; rintro w hS
  refine ⟨_, rfl, ?_⟩
  refine newM_s hS ?_; clear hS; intro r2 w hS
  refine stc_s hS rfl rfl ?_; clear hS; intro w hS
  refine stc_s hS rfl rfl ?_; clear hS; intro w hS
  refine stc_s hS rfl rfl ?_; clear hS; intro w hS
  replace h := bnd h
  obtain ⟨o7, h7, c7⟩ := h
  refine cutM_i (fun s w => ∃ (a3 : Option Addr) (m4 : Nat) (c5 : Nat) (ws6 : List Nat), (List.map nf ws6) = o7 ∧ s = (()) ∧ Ho w0 w ((cl r2 [.int .i64 t1, .slice a3 m4 c5, .slice none 0 0] N.t_Factor) :: (cl r1 [.int .i64 0, .slice none 0 0, .slice none 0 0] N.t_Factor) :: (sl a3 m4 c5 (List.map (Value.float .f64) ws6) N.t_float64) :: L)) (fun J7 hJ7 => ?_) ?_
  · have h := h7
    clear h7
    replace hS := hS.none (α := Nat) (enc := (Value.float .f64)) (t := N.t_float64)
    refine iter_sim (fun s w t => ∃ (t3 : Int) (a8 : Option Addr) (m9 : Nat) (c10 : Nat) (ws11 : List Nat), (t3, (List.map nf ws11)) = t ∧ s = (t3, ()) ∧ Ho w0 w ((cl r2 [.int .i64 t1, .slice a8 m9 c10, .slice none 0 0] N.t_Factor) :: (cl r1 [.int .i64 0, .slice none 0 0, .slice none 0 0] N.t_Factor) :: (sl a8 m9 c10 (List.map (Value.float .f64) ws11) N.t_float64) :: L)) ?_ h ⟨_, _, _, _, _, rfl, rfl, (hS.pick (A := [_, _, _]) [1, 1, 0] rfl)⟩
    clear h hS
    rintro s w t X q ⟨t3, a8, m9, c10, ws11, rfl, rfl, hS⟩ h hX hO
    unfold T_girderlaw13_whole_b2 at h
    try dsimp only
    refine ⟨_, (hS.cel mp0 rfl), ?_⟩
    refine ⟨_, (hS.cel mp0 rfl), ?_⟩
    refine ⟨by decide, ?_⟩
    refine cond_s h ?_ ?_ <;> clear h <;> intro hc h
    · refine ⟨_, _, _, (hS.cel mp0 rfl), ?_⟩
      refine drM_s hS ?_; clear hS; intro w hS
      replace h := bnd h
      obtain ⟨t5, ht5, h⟩ := h
      refine wk_girderlaw13_at H hS (hq1.mono tl3) ht5 ?_; clear hS ht5; rintro w hS
      refine ⟨_, rfl, ?_⟩
      refine ⟨(hS.cel mp0 rfl), ?_⟩
      refine drM_s hS ?_; clear hS; intro w hS
      replace h := bnd h
      obtain ⟨t6, ht6, h⟩ := h
      obtain rfl : (List.map nf ([(FloatKind.f64.nearest t5)] : List Nat)) = t6 := some_inj ht6
      clear ht6
      refine lit_s (ks := [(FloatKind.f64.nearest t5)]) (enc := (Value.float .f64)) (m := 1) hS rfl rfl ?_; clear hS; intro r12 w hS
      refine ⟨(hS.cel mp1 rfl), ?_⟩
      refine drM_s hS ?_; clear hS; intro w hS
      replace h := bnd h
      obtain ⟨t7, ht7, h⟩ := h
      obtain ⟨rfl, kt7⟩ := appF ht7
      clear ht7
      replace hS := ro3 hS
      refine app_s hS kt7 ((Ent.sl mp1).now (fun _ h => h) hS) (fun _ => rfl) rfl ?_; clear hS kt7; intro a13 c13 w hS
      refine drM_s hS ?_; clear hS; intro w hS
      replace hS := ro2 hS
      refine stc_s hS rfl rfl ?_; clear hS; intro w hS
      refine drM_s hS ?_; clear hS; intro w hS
      obtain rfl := some_inj h
      exact hX _ rfl _ _ ⟨_, _, _, _, _, rfl, rfl, (hS.pick (A := [_, _, _, _]) [0, 2, 0] rfl)⟩
    · obtain rfl := some_inj h
      have h := congrArg some (hO _ rfl)
      obtain rfl := some_inj h
      exact hJ7 _ _ ⟨_, _, _, _, rfl, rfl, hS⟩
  · clear h7 hS
    rintro s w ⟨a3, m4, c5, ws6, rfl, rfl, hS⟩
    have h := c7
    clear c7
    try dsimp only
    replace h := bnd h
    obtain ⟨o18, h18, c18⟩ := h
    refine cutM_i (fun s w => ∃ (a14 : Option Addr) (m15 : Nat) (c16 : Nat) (ws17 : List Nat), (List.map nf ws17) = o18 ∧ s = (()) ∧ Ho w0 w ((cl r2 [.int .i64 t1, .slice a3 m4 c5, .slice a14 m15 c16] N.t_Factor) :: (cl r1 [.int .i64 0, .slice none 0 0, .slice none 0 0] N.t_Factor) :: (sl a3 m4 c5 (List.map (Value.float .f64) ws6) N.t_float64) :: (sl a14 m15 c16 (List.map (Value.float .f64) ws17) N.t_float64) :: L)) (fun J18 hJ18 => ?_) ?_
    · have h := h18
      clear h18
      replace hS := hS.none (α := Nat) (enc := (Value.float .f64)) (t := N.t_float64)
      refine iter_sim (fun s w t => ∃ (t9 : Int) (a19 : Option Addr) (m20 : Nat) (c21 : Nat) (ws22 : List Nat), (t9, (List.map nf ws22)) = t ∧ s = (t9, ()) ∧ Ho w0 w ((cl r2 [.int .i64 t1, .slice a3 m4 c5, .slice a19 m20 c21] N.t_Factor) :: (cl r1 [.int .i64 0, .slice none 0 0, .slice none 0 0] N.t_Factor) :: (sl a3 m4 c5 (List.map (Value.float .f64) ws6) N.t_float64) :: (sl a19 m20 c21 (List.map (Value.float .f64) ws22) N.t_float64) :: L)) ?_ h ⟨_, _, _, _, _, rfl, rfl, (hS.pick (A := [_, _, _, _]) [1, 1, 1, 0] rfl)⟩
      clear h hS
      rintro s w t X q ⟨t9, a19, m20, c21, ws22, rfl, rfl, hS⟩ h hX hO
      unfold T_girderlaw13_whole_b4 at h
      try dsimp only
      refine ⟨_, (hS.cel mp0 rfl), ?_⟩
      refine cond_s h ?_ ?_ <;> clear h <;> intro hc h
      · replace h := bnd h
        obtain ⟨t11, ht11, h⟩ := h
        refine wk_girderlaw13_at H hS (hq1.mono tl4) ht11 ?_; clear hS ht11; rintro w hS
        refine ⟨_, rfl, ?_⟩
        replace h := bnd h
        obtain ⟨o23, h23, c23⟩ := h
        refine cutM_i (fun s w => ∃ (t12 : Int), t12 = o23 ∧ s = (t12, ()) ∧ Ho w0 w ((cl r2 [.int .i64 t1, .slice a3 m4 c5, .slice a19 m20 c21] N.t_Factor) :: (cl r1 [.int .i64 0, .slice none 0 0, .slice none 0 0] N.t_Factor) :: (sl a3 m4 c5 (List.map (Value.float .f64) ws6) N.t_float64) :: (sl a19 m20 c21 (List.map (Value.float .f64) ws22) N.t_float64) :: L)) (fun J23 hJ23 => ?_) ?_
        · have h := h23
          clear h23
          refine cond_s h ?_ ?_ <;> clear h <;> intro hc h
          · obtain rfl := some_inj h
            exact hJ23 _ _ ⟨_, rfl, rfl, hS⟩
          · obtain rfl := some_inj h
            exact hJ23 _ _ ⟨_, rfl, rfl, hS⟩
        · clear h23 hS
          rintro s w ⟨t12, rfl, rfl, hS⟩
          have h := c23
          clear c23
          try dsimp only
          refine ⟨_, _, _, (hS.cel mp0 rfl), ?_⟩
          replace h := bnd h
          obtain ⟨t13, ht13, h⟩ := h
          obtain rfl : (List.map nf ([(FloatKind.f64.nearest t12)] : List Nat)) = t13 := some_inj ht13
          clear ht13
          refine lit_s (ks := [(FloatKind.f64.nearest t12)]) (enc := (Value.float .f64)) (m := 1) hS rfl rfl ?_; clear hS; intro r24 w hS
          replace h := bnd h
          obtain ⟨t14, ht14, h⟩ := h
          obtain ⟨rfl, kt14⟩ := appF ht14
          clear ht14
          replace hS := ro4 hS
          refine app_s hS kt14 ((Ent.sl mp1).now (fun _ h => h) hS) (fun _ => rfl) rfl ?_; clear hS kt14; intro a25 c25 w hS
          replace hS := ro2 hS
          refine stc_s hS rfl rfl ?_; clear hS; intro w hS
          obtain rfl := some_inj h
          exact hX _ rfl _ _ ⟨_, _, _, _, _, rfl, rfl, (hS.pick (A := [_, _, _, _, _]) [0, 2, 2, 0] rfl)⟩
      · obtain rfl := some_inj h
        have h := congrArg some (hO _ rfl)
        obtain rfl := some_inj h
        exact hJ18 _ _ ⟨_, _, _, _, rfl, rfl, hS⟩
    · clear h18 hS
      rintro s w ⟨a14, m15, c16, ws17, rfl, rfl, hS⟩
      have h := c18
      clear c18
      try dsimp only
      refine ⟨_, (hS.cel mp0 rfl), ?_⟩
      refine ⟨_, _, _, (hS.cel mp0 rfl), ?_⟩
      refine ⟨_, _, _, (hS.cel mp0 rfl), ?_⟩
      replace hS := ro1 hS
      refine stc_s hS rfl rfl ?_; clear hS; intro w hS
      refine stc_s hS rfl rfl ?_; clear hS; intro w hS
      refine stc_s hS rfl rfl ?_; clear hS; intro w hS
      refine ⟨_, (hS.cel mp0 rfl), ?_⟩
      refine ⟨_, _, _, (hS.cel mp0 rfl), ?_⟩
      refine ⟨_, _, _, (hS.cel mp0 rfl), ?_⟩
      have h := some_inj h
      cases h
      exact hK _ _ _ _ _ _ _ _ _ rfl rfl (hS.pick (A := [_, _, _, _]) [2, 2] rfl)

theorem wk_girderlaw13_entry {N : Nums} {P : Program} (H : AllOk N P) {w0 w : World} {L : List It} {q0_0 : Int} {q0_1 : Option Addr} {q0_1l q0_1c : Nat} {ws0_1 : List Nat} {q0_2 : Option Addr} {q0_2l q0_2c : Nat} {ws0_2 : List Nat} {q1 : Int} {q2 : Int} {u0 : Int} (hS : Ho w0 w L) (hq0_1 : Ent L (rdA (List.map (Value.float .f64) ws0_1) q0_1 q0_1l q0_1c)) (hq0_2 : Ent L (rdA (List.map (Value.float .f64) ws0_2) q0_2 q0_2l q0_2c)) (hx : T_girderlaw13_entry q0_0 (List.map nf ws0_1) (List.map nf ws0_2) q1 q2 = some u0) {K : Value → World → Prop} (hK : ∀  (w1 : World), Ho w0 w1 (L) → K (.int .i64 u0) w1) : CallsX P N.f_girderlaw13_entry #[.agg #[.int .i64 q0_0, .slice q0_1 q0_1l q0_1c, .slice q0_2 q0_2l q0_2c], .int .i64 q1, .int .i64 q2] w K := by
  refine H.girderlaw13_entry q0_0 q0_1 q0_1l q0_1c q0_2 q0_2l q0_2c q1 q2 w _ ?_
  unfold S_girderlaw13_entry
  unfold T_girderlaw13_entry at hx
  have h := hx
  clear hx
  try dsimp only
  refine newM_s hS ?_; clear hS; intro r1 w hS
  refine cond_s h ?_ ?_ <;> clear h <;> intro hc h
  · have h := some_inj h
    cases h
    exact hK _ (hS.pick (A := [_]) [] rfl)
  · refine cond_s h ?_ ?_ <;> clear h <;> intro hc h
    · have h := some_inj h
      cases h
      exact hK _ (hS.pick (A := [_]) [] rfl)
    · refine ⟨_, _, _, (hS.cel mp0 rfl), ?_⟩
      refine ⟨by decide, ?_⟩
      replace h := bnd h
      obtain ⟨t1, ht1, h⟩ := h
      obtain ⟨z2, rfl, q3x, q3l, q3r⟩ := atF ht1
      clear ht1
      refine idx_s ((hq0_1.mono tl1).now (fun _ h => h) hS) q3x q3l q3r ?_; intro b4 hb4
      refine ⟨_, rd_get ((hq0_1.mono tl1).now (fun _ h => h) hS) hb4 q3x, ?_⟩
      replace h := bnd h
      obtain ⟨t2, ht2, h⟩ := h
      refine f2i_s ht2 hS ?_; clear hS ht2; intro w hS
      have h := some_inj h
      cases h
      exact hK _ (hS.pick (A := [_]) [] rfl)

theorem wk_girderlaw13_equal {N : Nums} {P : Program} (H : AllOk N P) {w0 w : World} {L : List It} {q0 : Option Addr} {q0l q0c : Nat} {ws0 : List Nat} {q1 : Option Addr} {q1l q1c : Nat} {ws1 : List Nat} {u0 : Bool} (hS : Ho w0 w L) (hq0 : Ent L (rdA (List.map (Value.float .f64) ws0) q0 q0l q0c)) (hq1 : Ent L (rdA (List.map (Value.float .f64) ws1) q1 q1l q1c)) (hx : T_girderlaw13_equal (List.map nf ws0) (List.map nf ws1) = some u0) {K : Value → World → Prop} (hK : ∀  (w1 : World), Ho w0 w1 (L) → K (.bool u0) w1) : CallsX P N.f_girderlaw13_equal #[.slice q0 q0l q0c, .slice q1 q1l q1c] w K := by
  refine H.girderlaw13_equal q0 q0l q0c q1 q1l q1c w _ ?_
  unfold S_girderlaw13_equal
  unfold T_girderlaw13_equal at hx
  have h := hx
  clear hx
  try dsimp only
  replace h := bnd h
  obtain ⟨t1, ht1, h⟩ := h
  obtain rfl := lenF ht1 (hq0.now (fun _ h => h) hS)
  clear ht1
  replace h := bnd h
  obtain ⟨t2, ht2, h⟩ := h
  obtain rfl := lenF ht2 (hq1.now (fun _ h => h) hS)
  clear ht2
  refine cond_s h ?_ ?_ <;> clear h <;> intro hc h
  · have h := some_inj h
    cases h
    exact hK _ hS
  · replace h := bnd h
    obtain ⟨o1, h1, c1⟩ := h
    refine cutM_i (fun s w =>  .inl () = o1 ∧ s = (()) ∧ Ho w0 w (L)) (fun J1 hJ1 => ?_) ?_
    · have h := h1
      clear h1
      refine iter_sim (fun s w t => ∃ (t3 : Int), t3 = t ∧ s = (t3, ()) ∧ Ho w0 w (L)) ?_ h ⟨_, rfl, rfl, hS⟩
      clear h hS
      rintro s w t X q ⟨t3, rfl, rfl, hS⟩ h hX hO
      unfold T_girderlaw13_equal_b2 at h
      try dsimp only
      replace h := bnd h
      obtain ⟨t4, ht4, h⟩ := h
      obtain rfl := lenF ht4 (hq0.now (fun _ h => h) hS)
      clear ht4
      refine cond_s h ?_ ?_ <;> clear h <;> intro hc h
      · replace h := bnd h
        obtain ⟨t5, ht5, h⟩ := h
        obtain ⟨z2, rfl, q3x, q3l, q3r⟩ := atF ht5
        clear ht5
        refine idx_s (hq0.now (fun _ h => h) hS) q3x q3l q3r ?_; intro b4 hb4
        refine ⟨_, rd_get (hq0.now (fun _ h => h) hS) hb4 q3x, ?_⟩
        replace h := bnd h
        obtain ⟨t6, ht6, h⟩ := h
        obtain ⟨z5, rfl, q6x, q6l, q6r⟩ := atF ht6
        clear ht6
        refine idx_s (hq1.now (fun _ h => h) hS) q6x q6l q6r ?_; intro b7 hb7
        refine ⟨_, rd_get (hq1.now (fun _ h => h) hS) hb7 q6x, ?_⟩
        replace h := bnd h
        obtain ⟨t7, ht7, h⟩ := h
        obtain rfl := fne_s ht7
        clear ht7
        refine cond_s h ?_ ?_ <;> clear h <;> intro hc h
        · replace h := bnd h
          obtain ⟨t8, ht8, h⟩ := h
          obtain ⟨z8, rfl, q9x, q9l, q9r⟩ := atF ht8
          clear ht8
          refine idx_s (hq0.now (fun _ h => h) hS) q9x q9l q9r ?_; intro b10 hb10
          refine ⟨_, rd_get (hq0.now (fun _ h => h) hS) hb10 q9x, ?_⟩
          replace h := bnd h
          obtain ⟨t9, ht9, h⟩ := h
          obtain ⟨z11, rfl, q12x, q12l, q12r⟩ := atF ht9
          clear ht9
          refine idx_s (hq0.now (fun _ h => h) hS) q12x q12l q12r ?_; intro b13 hb13
          refine ⟨_, rd_get (hq0.now (fun _ h => h) hS) hb13 q12x, ?_⟩
          replace h := bnd h
          obtain ⟨t10, ht10, h⟩ := h
          obtain rfl := feq_s ht10
          clear ht10
          refine cond_s h ?_ ?_ <;> clear h <;> intro hc h
          · replace h := bnd h
            obtain ⟨t11, ht11, h⟩ := h
            obtain ⟨z14, rfl, q15x, q15l, q15r⟩ := atF ht11
            clear ht11
            refine idx_s (hq1.now (fun _ h => h) hS) q15x q15l q15r ?_; intro b16 hb16
            refine ⟨_, rd_get (hq1.now (fun _ h => h) hS) hb16 q15x, ?_⟩
            replace h := bnd h
            obtain ⟨t12, ht12, h⟩ := h
            obtain ⟨z17, rfl, q18x, q18l, q18r⟩ := atF ht12
            clear ht12
            refine idx_s (hq1.now (fun _ h => h) hS) q18x q18l q18r ?_; intro b19 hb19
            refine ⟨_, rd_get (hq1.now (fun _ h => h) hS) hb19 q18x, ?_⟩
            replace h := bnd h
            obtain ⟨t13, ht13, h⟩ := h
            obtain rfl := feq_s ht13
            clear ht13
            refine drM_s hS ?_; clear hS; intro w hS
            refine cond_s h ?_ ?_ <;> clear h <;> intro hc h
            · obtain rfl := some_inj h
              have h := congrArg some (hO _ rfl)
              obtain rfl := some_inj h
              have h := c1
              have h := some_inj h
              cases h
              exact hK _ hS
            · obtain rfl := some_inj h
              exact hX _ rfl _ _ ⟨_, rfl, rfl, hS⟩
          · refine drM_s hS ?_; clear hS; intro w hS
            obtain rfl := some_inj h
            have h := congrArg some (hO _ rfl)
            obtain rfl := some_inj h
            have h := c1
            have h := some_inj h
            cases h
            exact hK _ hS
        · refine drM_s hS ?_; clear hS; intro w hS
          obtain rfl := some_inj h
          exact hX _ rfl _ _ ⟨_, rfl, rfl, hS⟩
      · obtain rfl := some_inj h
        have h := congrArg some (hO _ rfl)
        obtain rfl := some_inj h
        exact hJ1 _ _ ⟨rfl, rfl, hS⟩
    · clear h1 hS
      rintro s w ⟨rfl, rfl, hS⟩
      have h := c1
      clear c1
      try dsimp only
      have h := some_inj h
      cases h
      exact hK _ hS

end Go.Eng
