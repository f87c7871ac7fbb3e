/-
  What is solved, times a power of two: factors of sixty-fourths, whole numbers. No condition.
-/
import Derived.Test.YtdephdnkkljfeaaGreatDoorScl3
import Derived.Test.YtdephdnkkljfeaaGreatDoorPf
set_option linter.all false
set_option maxRecDepth 100000
set_option maxHeartbeats 4000000
set_option exponentiation.threshold 5000
namespace Go.Eng
open Go
def Lt (x : Nat) : Prop := x < 18446744073709551616
structure Two (p : Int) (K M : Nat) (x y : Nat) : Prop where
  gr : Gr K M x
  sc : Sc p x y
  lx : Lt x
  ly : Lt y
theorem Two.mono {p : Int} {K M K' M' x y : Nat} (h : Two p K M x y) (hK : K' ≤ K) (hM : M ≤ M') : Two p K' M' x y := ⟨h.gr.mono hK hM, h.sc, h.lx, h.ly⟩
section
variable {p : Int} (hp1 : -20 ≤ p) (hp2 : p ≤ 20)
include hp1 hp2
theorem two_step {K M s s' f g g' : Nat} (hs : Two p K M s s') (hf : Gr 1068 1077 f) (hg : Two p (K + 6) (M - 4) g g') (hK : 100 ≤ K) (hM1 : 4 ≤ M) (hM : M ≤ 2000) : Two p K (M + 2) (fsub s (fmul f g)) (fsub s' (fmul f g')) := by
  obtain ⟨m1, m2⟩ := sc_fmulG (p := p) (K' := K) (M' := M) hf hg.gr hg.sc (by omega) (by omega) (by omega) (by omega) (by omega) (by omega)
  have lm := fmul_lt hf.fin hg.gr.fin
  have lm' := fmul_lt hf.fin (sc_fin hg.sc hg.gr.fin)
  obtain ⟨k1, k2⟩ := sc_fsub hs.gr m1 hs.sc m2 hs.lx lm hs.ly lm' (by omega) (by omega) (by omega) (by omega)
  exact ⟨k1, k2, fsub_lt hs.gr.fin m1.fin, fsub_lt (sc_fin hs.sc hs.gr.fin) (sc_fin m2 m1.fin)⟩
theorem subN_two {f g g' : Nat → Nat} {K M s s' : Nat} (hs : Two p K M s s') (hK : 100 ≤ K) (hM1 : 4 ≤ M) : ∀ {j : Nat}, M + 2 * j ≤ 2000 → (∀ k, k < j → Gr 1068 1077 (f k) ∧ Two p (K + 6) (M - 4) (g k) (g' k)) → Two p K (M + 2 * j) (subN f g s j) (subN f g' s' j)
  | 0, _, _ => hs
  | j + 1, hM, h => by
    have ih := subN_two hs hK hM1 (j := j) (by omega) fun k hk => h k (by omega)
    obtain ⟨h1, h2⟩ := h j (by omega)
    show Two p K (M + 2 * j + 2) _ _
    exact two_step hp1 hp2 ih h1 (h2.mono (Nat.le_refl _) (by omega)) hK (by omega) (by omega)
theorem fw_two {l b b' : List Nat} {n K M : Nat} (hn : n ≤ 6) (hK : 200 ≤ K) (hM1 : 4 ≤ M) (hM : M ≤ 1800) (hl : ∀ i j, j < i → i < n → Gr 1068 1077 (lowG l i j)) (hb : ∀ i, i < n → Two p K M (b.getD i 0) (b'.getD i 0)) :
    ∀ m, m ≤ n → ∀ i, i < m → Two p (K - 6 * i) (M + 16 * i) ((fw l b m).getD i 0) ((fw l b' m).getD i 0)
  | 0, _, i, hi => by omega
  | m + 1, hm, i, hi => by
    have ih := fw_two hn hK hM1 hM hl hb m (by omega)
    unfold fw
    by_cases e : i = m
    · subst e
      rw [app_eq (fw_len l b i), app_eq (fw_len l b' i)]
      by_cases i0 : i = 0
      · subst i0
        have := hb 0 (by omega)
        simpa [subN] using this
      · have := subN_two hp1 hp2 (f := fun j => lowG l i j) (g := fun j => (fw l b i).getD j 0) (g' := fun j => (fw l b' i).getD j 0) (K := K - 6 * i) (M := M + 16 * (i - 1) + 4) ((hb i (by omega)).mono (by omega) (by omega)) (by omega) (by omega) (j := i) (by omega) fun k hk => ⟨hl i k hk (by omega), (ih k hk).mono (by omega) (by omega)⟩
        exact this.mono (Nat.le_refl _) (by omega)
    · rw [app_lt (by rw [fw_len]; omega), app_lt (by rw [fw_len]; omega)]
      exact ih i (by omega)
theorem bk_two {l : List Nat} {q q' : Nat → Nat} {n K M : Nat} (hn : n ≤ 6) (hK : 200 ≤ K) (hM1 : 4 ≤ M) (hM : M ≤ 1800) (hl : ∀ i j, j < i → i < n → Gr 1068 1077 (lowG l i j)) (hq : ∀ i, i < n → Two p K M (q i) (q' i)) :
    ∀ k, k ≤ n → ∀ m, m < k → Two p (K - 6 * k) (M + 16 * k) ((bk l q n k).getD m 0) ((bk l q' n k).getD m 0)
  | 0, _, m, hm => by omega
  | k + 1, hk, m, hm => by
    have ih := bk_two hn hK hM1 hM hl hq k (by omega)
    unfold bk
    cases m with
    | succ m =>
      rw [List.getD_cons_succ, List.getD_cons_succ]
      exact (ih m (by omega)).mono (by omega) (by omega)
    | zero =>
      rw [List.getD_cons_zero, List.getD_cons_zero]
      have := subN_two hp1 hp2 (f := fun m => lowG l (n - 1 - k + 1 + m) (n - 1 - k)) (g := fun m => (bk l q n k).getD m 0) (g' := fun m => (bk l q' n k).getD m 0) (K := K - 6 * (k + 1)) (M := M + 16 * k + 4) ((hq (n - 1 - k) (by omega)).mono (by omega) (by omega)) (by omega) (by omega) (j := k) (by omega) fun m hm => ⟨hl _ _ (by omega) (by omega), (ih m hm).mono (by omega) (by omega)⟩
      exact this.mono (Nat.le_refl _) (by omega)
theorem sol_two {l d b b' : List Nat} {n : Nat} (hn : n ≤ 6) (hl : ∀ i j, j < i → i < n → Gr 1068 1077 (lowG l i j)) (hb : ∀ i, i < n → Two p 1054 1118 (b.getD i 0) (b'.getD i 0))
    (hd : ∀ i, i < n → magF (d.getD i 0) < 9218868437227405312 ∧ 2 ^ 1074 ≤ vmag (magF (d.getD i 0)) ∧ vmag (magF (d.getD i 0)) ≤ 2 ^ 1116) :
    ∀ i, i < n → Two p 800 1500 ((bk l (quoG d (fw l b n)) n n).getD i 0) ((bk l (quoG d (fw l b' n)) n n).getD i 0) := fun i hi => by
  have f := fw_two hp1 hp2 (K := 1054) (M := 1118) hn (by omega) (by omega) (by omega) hl hb n (Nat.le_refl _)
  have := bk_two hp1 hp2 (q := quoG d (fw l b n)) (q' := quoG d (fw l b' n)) (K := 920) (M := 1250) hn (by omega) (by omega) (by omega) hl (fun i hi => by
    have fi := f i hi
    obtain ⟨d1, d2, d3⟩ := hd i hi
    obtain ⟨k1, k2⟩ := sc_fdivG (K' := 920) (M' := 1250) fi.gr fi.sc d1 d2 d3 (by omega) (by omega) (by omega) (by omega) (by omega) (by omega)
    have d0 : magF (d.getD i 0) ≠ 0 := by
      intro e
      rw [e] at d2
      have : vmag 0 = 0 := by decide +kernel
      have := Nat.two_pow_pos 1074
      omega
    exact ⟨k1, k2, fdiv_lt fi.gr.fin d1 d0, fdiv_lt (sc_fin fi.sc fi.gr.fin) d1 d0⟩) n (Nat.le_refl _) i hi
  exact this.mono (by omega) (by omega)
end
end Go.Eng
