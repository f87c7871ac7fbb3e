/-
  The law VectorEven. No condition.
-/
import Derived.Test.YtngioelenknhkaaLw09
import Derived.Test.YtngioelenknhkaaScl5
import Derived.Test.YtngioelenknhkaaOpp
set_option linter.unusedVariables false
set_option linter.unusedSimpArgs false
set_option linter.unnecessarySimpa false
set_option linter.unusedSectionVars false
set_option maxRecDepth 100000
set_option maxHeartbeats 4000000
set_option exponentiation.threshold 5000
namespace Go.Eng
open Go

theorem opp_minus (x : Nat) : Opp x (nf (fneg x)) := by
  cases h : isNaN x with
  | true => exact .inl ⟨h, by rw [isNaN_nf, isNaN_fneg, h]⟩
  | false =>
    rw [nf_of_not (by rw [isNaN_fneg, h])]
    exact .inr ⟨h, (fneg_mag x).symm, .inr (fneg_neg x)⟩
/-- Two that are opposite to the same are equal, or both NaN. -/
theorem opp_both {x u v : Nat} (h : Opp x u) (k : Opp x v) : feq u v = true ∨ (isNaN u = true ∧ isNaN v = true) := by
  rcases h with ⟨h1, h2⟩ | ⟨h1, h2, h3⟩
  · rcases k with ⟨_, k2⟩ | ⟨k1, _⟩
    · exact .inr ⟨h2, k2⟩
    · rw [h1] at k1; cases k1
  · rcases k with ⟨k1, _⟩ | ⟨_, k2, k3⟩
    · rw [h1] at k1; cases k1
    · left
      rw [isNaN_mag] at h1
      have hm : ¬ 9218868437227405312 < magF x := by simpa using h1
      by_cases h0 : magF x = 0
      · unfold feq Ieee.Format.order
        rw [read_small (x := u) (by omega), read_small (x := v) (by omega), ← h2, ← k2, h0]
        cases negF u <;> cases negF v <;> rfl
      · have e : negF u = negF v := by rw [h3.resolve_left h0, k3.resolve_left h0]
        have er : Ieee.double.read u = Ieee.double.read v := by
          rcases Nat.lt_or_ge (magF x) 4503599627370496 with h | h
          · rw [read_small (x := u) (by omega), read_small (x := v) (by omega), ← h2, ← k2, e]
          · rcases Nat.lt_or_ge (magF x) 9218868437227405312 with g | g
            · rw [read_normal (x := u) (by omega) (by omega), read_normal (x := v) (by omega) (by omega), ← h2, ← k2, e]
            · rw [read_inf (x := u) (by omega), read_inf (x := v) (by omega), e]
        have := feq_self v
        unfold feq Ieee.Format.order at this ⊢
        rw [er, this, isNaN_mag, ← k2]
        simpa using hm

def moneF : Nat := 13830554455654793216
theorem fmul_mone {x : Nat} (hl : x < 18446744073709551616) : fmul moneF x = nf (fneg x) := by
  have r1 : Ieee.double.read moneF = .number true 4503599627370496 (-52) := by decide +kernel
  have r0 : Ieee.double.read 4607182418800017408 = .number false 4503599627370496 (-52) := by decide +kernel
  rw [← fmul_one (fneg_lt hl)]
  rcases Nat.lt_or_ge (magF x) 9218868437227405312 with h | h
  · obtain ⟨m, a, hr, _⟩ := read_fin h
    have hr' : Ieee.double.read (fneg x) = .number (!negF x) m (-1074 + (a : Int)) := by rw [read_fneg h, hr]; rfl
    rw [fmul_num r1 hr, fmul_num r0 hr', Bool.true_xor, Bool.false_xor]
  · rcases Nat.lt_or_ge 9218868437227405312 (magF x) with h2 | h2
    · have n1 : isNaN x = true := by rw [isNaN_mag]; exact decide_eq_true h2
      have n2 : isNaN (fneg x) = true := by rw [isNaN_fneg]; exact n1
      rw [fmul_nan (.inr n1), fmul_nan (.inr n2)]
    · have hi : magF x = 9218868437227405312 := by omega
      have hi' : magF (fneg x) = 9218868437227405312 := by rw [fneg_mag]; exact hi
      unfold fmul Ieee.Format.mul
      rw [r1, r0, read_inf hi, read_inf hi', fneg_neg]
      cases negF x <;> rfl
theorem read_fneg' {x : Nat} (h : isNaN x = false) : Ieee.double.read (fneg x) = (Ieee.double.read x).opposite := by
  rcases Nat.lt_or_ge (magF x) 9218868437227405312 with g | g
  · exact read_fneg g
  · rw [isNaN_mag] at h
    have : ¬ 9218868437227405312 < magF x := by simpa using h
    have hi : magF x = 9218868437227405312 := by omega
    rw [read_inf hi, read_inf (x := fneg x) (by rw [fneg_mag]; exact hi), fneg_neg]; rfl
theorem fadd_minus {x : Nat} (y : Nat) (hl : x < 18446744073709551616) : fadd (fmul moneF x) y = fsub y x := by
  rw [fmul_mone hl, fadd_eq (nf_nf (fneg x)) (rfl : nf y = nf y)]
  cases h : isNaN x with
  | true => rw [fadd_nan (.inl (by rw [isNaN_fneg]; exact h)), fsub_nan (.inr h)]
  | false =>
    rw [fadd_comm]
    unfold fadd fsub Ieee.Format.add Ieee.Format.sub
    rw [read_fneg' h]

/-! ### What is even -/

def evC (x : Nat) : Bool := cond (!feq (nf (magF x)) 0) (cond (fgt (nf (magF x)) 3706462493325918208 || feq (nf (magF x)) 3706462493325918208) (flt (nf (magF x)) 5507902344274116608 || feq (nf (magF x)) 5507902344274116608) false) true
theorem evC_mg {x : Nat} (h : evC x = true) : Mg 874 1274 x := by
  have v1 : vmag 3706462493325918208 = 2 ^ 874 := by decide +kernel
  have v2 : vmag 5507902344274116608 = 2 ^ 1274 := by decide +kernel
  unfold evC at h
  cases hn : isNaN (magF x) with
  | true =>
    have e : nf (magF x) = qnan := by unfold nf; rw [hn]; rfl
    rw [e] at h
    have f : cond (!feq qnan 0) (cond (fgt qnan 3706462493325918208 || feq qnan 3706462493325918208) (flt qnan 5507902344274116608 || feq qnan 5507902344274116608) false) true = false := by decide +kernel
    rw [f] at h
    cases h
  | false =>
    rw [nf_of_not hn] at h
    have hz := feq_zero (magF x)
    rw [magF_magF] at hz
    rw [hz] at h
    by_cases h0 : magF x = 0
    · exact ⟨by omega, .inl h0⟩
    · rw [decide_eq_false h0, Bool.not_false, cT] at h
      cases h1 : (fgt (magF x) 3706462493325918208 || feq (magF x) 3706462493325918208) with
      | false => rw [h1] at h; cases h
      | true =>
        rw [h1, cT] at h
        have b := between_mag (x := magF x) (by omega) (by omega) (by omega) h1 h
        rw [magF_magF] at b
        refine ⟨by omega, .inr ?_⟩
        have l1 := vmag_le_iff.2 b.1
        have l2 := vmag_le_iff.2 b.2
        rw [v1] at l1
        rw [v2] at l2
        exact ⟨l1, l2⟩

theorem good_t {a b : List Nat} {n : Nat} {t2 t3 : Int} (hn : n ≤ 300) (ha : a.length = n) (hb : b.length = n) (ht : (if 300 < (if t3 < t2 then t3 else t2) then 300 else (if t3 < t2 then t3 else t2)) = (n : Int)) :
    iter (T_girderlaw09_VectorEven_b2 t3 t2 a b) FU 0 = some (if ∀ i, i < n → evC (a.getD i 0) = true ∧ evC (b.getD i 0) = true then .inl () else .inr true) := by
  have c1 : nf 3706462493325918208 = 3706462493325918208 := by decide +kernel
  have c2 : nf 5507902344274116608 = 5507902344274116608 := by decide +kernel
  have step : ∀ k, k < n → T_girderlaw09_VectorEven_b2 t3 t2 a b ((k : Nat) : Int) = cond (evC (a.getD k 0) && evC (b.getD k 0)) (some (.inl ((k + 1 : Nat) : Int))) (some (.inr (.inr true))) := by
    intro k hk
    unfold T_girderlaw09_VectorEven_b2
    simp only [ht]
    rw [cond_t (by simp; omega), at_getD 0 (by omega), Option.bind_some, at_getD 0 (by omega)]
    simp only [Option.bind_some, abs_t, nf_zero, c1, c2, wrU (show k + 1 < 9223372036854775808 by omega)]
    unfold evC
    generalize nf (magF (a.getD k 0)) = x
    generalize nf (magF (b.getD k 0)) = y
    generalize (fgt x 3706462493325918208 || feq x 3706462493325918208) = x1
    generalize (flt x 5507902344274116608 || feq x 5507902344274116608) = x2
    generalize (fgt y 3706462493325918208 || feq y 3706462493325918208) = y1
    generalize (flt y 5507902344274116608 || feq y 5507902344274116608) = y2
    cases feq x 0 <;> cases feq y 0 <;> cases x1 <;> cases x2 <;> cases y1 <;> cases y2 <;> rfl
  rcases first_mark (fun i => !(evC (a.getD i 0) && evC (b.getD i 0))) n with hall | ⟨i, hi, hne, hbef⟩
  · have hall' : ∀ i, i < n → (evC (a.getD i 0) && evC (b.getD i 0)) = true := fun i hi => by have := hall i hi; rw [Bool.not_eq_false'] at this; exact this
    have := iter_nat (b := T_girderlaw09_VectorEven_b2 t3 t2 a b) (fun k => ((k : Nat) : Int)) (o := .inl ()) n (by rw [FU_eq]; omega) (fun k hk => by rw [step k hk, hall' k hk, cT]) (by
      unfold T_girderlaw09_VectorEven_b2
      simp only [ht]
      rw [cond_f (by simp)])
    rw [show ((0 : Nat) : Int) = 0 from rfl] at this
    rw [this, if_pos fun i hi => by have := hall' i hi; rw [Bool.and_eq_true] at this; exact this]
  · have hf : (evC (a.getD i 0) && evC (b.getD i 0)) = false := by rw [Bool.not_eq_true'] at hne; exact hne
    have := iter_nat (b := T_girderlaw09_VectorEven_b2 t3 t2 a b) (fun k => ((k : Nat) : Int)) (o := .inr true) i (by rw [FU_eq]; omega) (fun k hk => by
      have h := hbef k hk
      rw [Bool.not_eq_false'] at h
      rw [step k (by omega), h, cT]) (by rw [step i hi, hf, cF])
    rw [show ((0 : Nat) : Int) = 0 from rfl] at this
    rw [this, if_neg fun h => by have := h i hi; rw [this.1, this.2] at hf; cases hf]

/-! ### Scaling -/

theorem sc_mag {p : Int} {x y : Nat} (h : Sc p x y) : Sc p (magF x) (magF y) := by
  rcases h with ⟨h1, h2⟩ | ⟨h1, h2, h3, h4, h5, h6⟩
  · exact .inl ⟨by rw [magF_magF]; exact h1, by rw [h2]⟩
  · right
    rw [magF_magF, magF_magF, negF_magF, negF_magF]
    exact ⟨h1, h2, h3, h4, rfl, h6⟩

section
variable {p : Int} (hp1 : -20 ≤ p) (hp2 : p ≤ 20) {n : Nat} (hn : n ≤ 300) {a b : List Nat} (hla : a.length = n) (hlb : b.length = n)
  (ha : ∀ i, i < n → Mg 874 1274 (a.getD i 0) ∧ a.getD i 0 < 18446744073709551616) (hb : ∀ i, i < n → Mg 874 1274 (b.getD i 0))
include hp1 hp2 hn hla ha

theorem scale_at {t i : Nat} (hi : i < n) : (scaleV t a).getD i 0 = fmul t (a.getD i 0) := by
  unfold scaleV
  simp [List.getD_eq_getElem?_getD, hla, hi]
theorem scale_sc {i : Nat} (hi : i < n) : Sc p (a.getD i 0) ((scaleV (pow2F p) a).getD i 0) ∧ (scaleV (pow2F p) a).getD i 0 < 18446744073709551616 := by
  rw [scale_at hp1 hp2 hn hla ha hi, fmul_comm]
  obtain ⟨h1, h2⟩ := ha i hi
  exact sc_pow2 (h1.gr (by omega)) h2 (by omega) (by omega) (by omega) (by omega) (by omega) (by omega)
include hlb hb in
theorem dot_duo : ∀ k, k ≤ n → Duo p 622 (1475 + 2 * k) (dotN (fun i => a.getD i 0) (fun i => b.getD i 0) k) (dotN (fun i => (scaleV (pow2F p) a).getD i 0) (fun i => b.getD i 0) k)
  | 0, _ => by
    show Duo p 622 1475 0 0
    have m0 : magF 0 = 0 := by decide
    exact ⟨.zero m0, .inl ⟨m0, rfl⟩, by omega, by omega⟩
  | k + 1, hk => by
    have ih := dot_duo k (by omega)
    have hs := scale_sc hp1 hp2 hn hla ha (show k < n by omega)
    have h1 := (ha k (by omega)).1
    have h2 := hb k (by omega)
    obtain ⟨m1, m2⟩ := mg_mul h2 h1 hs.1 (by omega) (by omega) (by omega) (by omega)
    have g := sc_fadd (p := p) (K := 622) (M := 1475 + 2 * k) ih.gr ((m1.gr (by omega)).mono (by omega) (by omega)) ih.sc m2 ih.lx (fmul_lt h2.fin h1.fin) ih.ly (fmul_lt h2.fin (sc_fin hs.1 h1.fin)) (by omega) (by omega) (by omega) (by omega)
    show Duo p 622 (1475 + 2 * k + 2) (fadd _ (fmul (a.getD k 0) (b.getD k 0))) (fadd _ (fmul ((scaleV (pow2F p) a).getD k 0) (b.getD k 0)))
    rw [fmul_comm (a.getD k 0), fmul_comm ((scaleV (pow2F p) a).getD k 0)]
    exact ⟨g.1, g.2, fadd_lt ih.gr.fin m1.fin, fadd_lt (sc_fin ih.sc ih.gr.fin) (sc_fin m2 m1.fin)⟩

theorem norm_duo : ∀ k, k ≤ n → Duo p 822 1284 (normN a k) (normN (scaleV (pow2F p) a) k) ∧ negF (normN a k) = false ∧ vmag (magF (normN a k)) ≤ 3 * k * 2 ^ 1274 ∧ (magF (normN a k) = 0 ∨ 2 ^ 874 ≤ vmag (magF (normN a k)))
  | 0, _ => by
    have m0 : magF 0 = 0 := by decide
    show Duo p 822 1284 0 0 ∧ negF 0 = false ∧ vmag (magF 0) ≤ 3 * 0 * 2 ^ 1274 ∧ (magF 0 = 0 ∨ 2 ^ 874 ≤ vmag (magF 0))
    refine ⟨⟨.zero m0, .inl ⟨m0, rfl⟩, by omega, by omega⟩, by decide, ?_, .inl m0⟩
    rw [m0, vm_zero]; exact Nat.zero_le _
  | k + 1, hk => by
    obtain ⟨i1, i2, i3, i4⟩ := norm_duo k (by omega)
    have hs := scale_sc hp1 hp2 hn hla ha (show k < n by omega)
    have h1 := (ha k (by omega)).1
    have fx := h1.fin
    have fy := sc_fin hs.1 fx
    have nm : ∀ {x : Nat}, magF x < 9218868437227405312 → nf (magF x) = magF x := fun h => nf_of_not (by rw [isNaN_mag, magF_magF]; exact decide_eq_false (by omega))
    have mg : Mg 874 1274 (magF (a.getD k 0)) := ⟨by rw [magF_magF]; exact fx, by rw [magF_magF]; exact h1.mg⟩
    have db : Duo p 822 1284 (magF (a.getD k 0)) (magF ((scaleV (pow2F p) a).getD k 0)) := ⟨(mg.gr (by omega)).mono (by omega) (by omega), sc_mag hs.1, by have := magF_lt (a.getD k 0); omega, by have := magF_lt ((scaleV (pow2F p) a).getD k 0); omega⟩
    have vb : vmag (magF (magF (a.getD k 0))) ≤ 2 ^ 1274 := by
      rcases mg.mg with h | h
      · rw [h, vm_zero]; exact Nat.zero_le _
      · exact h.2
    have lb : magF (magF (a.getD k 0)) = 0 ∨ 2 ^ (822 + 52) ≤ vmag (magF (magF (a.getD k 0))) := mg.mg.imp id fun h => h.1
    have r := addV_duo (K := 822) (N := 1274) (c := 3 * k + 2) hp1 hp2 i1 db i2 (negF_magF _) (by omega) (by omega) (by omega) (by
      have e : (3 * k + 2) * 2 ^ 1274 = 3 * k * 2 ^ 1274 + 2 * 2 ^ 1274 := Nat.add_mul _ _ _
      have := Nat.two_pow_pos 1274
      omega) i4 lb
    have fin' : ∀ {x : Nat}, magF x < 9218868437227405312 → nf x = x := fun h => nf_of_not (by rw [isNaN_mag]; exact decide_eq_false (by omega))
    obtain ⟨r1, r2, r3, r4⟩ := r
    unfold normN
    rw [nm fx, nm fy, fin' r1.gr.fin, fin' (sc_fin r1.sc r1.gr.fin)]
    refine ⟨r1, r2, ?_, r4⟩
    rw [show 3 * (k + 1) = 3 * k + 2 + 1 by omega]
    exact r3
end

/-! ### Opposites -/

theorem opp_fadd {x y x' y' : Nat} (h : Opp x x') (k : Opp y y') : Opp (fadd x y) (fadd x' y') :=
  opp_map (opp_sum (opp_read h) (opp_read k))
theorem dot_opp {f f' g : Nat → Nat} : ∀ {n : Nat}, (∀ i, i < n → Opp (f i) (f' i)) → Opp (dotN f g n) (dotN f' g n)
  | 0, _ => opp_zero
  | n + 1, h => by
    have ih := dot_opp (n := n) (g := g) fun i hi => h i (by omega)
    show Opp (fadd _ (fmul (f n) (g n))) (fadd _ (fmul (f' n) (g n)))
    rw [fmul_comm (f n), fmul_comm (f' n)]
    exact opp_fadd ih (opp_fmul (h n (by omega)))
theorem like_t {x u v : Nat} (h : Opp x u) (k : Opp x v) : T_girderkit_Like u v = some true := by
  unfold T_girderkit_Like
  simp only [Option.bind_some]
  rcases opp_both h k with e | ⟨e1, e2⟩
  · rw [e]; rfl
  · rw [feq_nan e1, feq_nan e1, feq_nan e2]; rfl
theorem minus_none {x : Nat} (hx : magF x < 9218868437227405312) : fadd x (nf (fneg x)) = 0 := by
  have hn : isNaN (fneg x) = false := by rw [isNaN_mag, fneg_mag]; exact decide_eq_false (by omega)
  rw [nf_of_not hn]
  obtain ⟨r, h1, h2, h3⟩ := fin_sum (x := x) (y := fneg x) hx (by rw [fneg_mag]; exact hx)
  have z : sval x + sval (fneg x) = 0 := by
    unfold sval
    rw [fneg_mag, fneg_neg]
    cases negF x <;> simp <;> omega
  rw [if_pos z, fneg_neg] at h1
  rw [h1, h3.2 z]
  cases negF x <;> decide
theorem norm_none {l : List Nat} : ∀ {n : Nat}, (∀ i, i < n → l.getD i 0 = 0) → normN l n = 0
  | 0, _ => rfl
  | n + 1, h => by
    unfold normN
    rw [norm_none (n := n) fun i hi => h i (by omega), h n (by omega)]
    decide +kernel

/-! ### The law -/

theorem pick9_t (x : Int) {n : Nat} (hn : 0 < n) (h : n < 1000000) : ∃ k : Nat, k < n ∧ T_girderkit_Pick x (n : Int) = some (k : Int) := by
  unfold T_girderkit_Pick
  rw [cond_f (by simp; omega)]
  have hz : nz (n : Int) = some () := by unfold nz; rw [if_pos (by omega)]
  have h1 : (x.tmod (n : Int)).natAbs < n := by
    rw [Int.natAbs_tmod]
    exact Nat.mod_lt _ (by simpa using hn)
  rw [hz, Option.bind_some]
  generalize x.tmod (n : Int) = r at h1
  by_cases hr : r < 0
  · refine ⟨(r + n).toNat, by omega, ?_⟩
    rw [cond_t (by simpa using hr), Option.bind_some, wrI (by omega) (by omega)]
    congr 1; omega
  · refine ⟨r.toNat, by omega, ?_⟩
    rw [cond_f (by simpa using hr), Option.bind_some]
    congr 1; omega
theorem ldexp9_t : ∀ k : Nat, k < 41 → T_math_Ldexp (nf 4607182418800017408) (IntKind.i64.wrap ((k : Int) - 20)) = some (pow2F ((k : Int) - 20)) := by decide +kernel

theorem even09 (k : Int) {a b : List Nat} (hwa : ∀ x ∈ a, x < 18446744073709551616) (hwb : ∀ x ∈ b, x < 18446744073709551616) : T_girderlaw09_VectorEven a b k = some true := by
  obtain ⟨n, hn, hna, hnb, ht⟩ : ∃ n : Nat, n ≤ 300 ∧ n ≤ a.length ∧ n ≤ b.length ∧ (if 300 < (if ((b.length : Nat) : Int) < ((a.length : Nat) : Int) then ((b.length : Nat) : Int) else ((a.length : Nat) : Int)) then 300 else (if ((b.length : Nat) : Int) < ((a.length : Nat) : Int) then ((b.length : Nat) : Int) else ((a.length : Nat) : Int))) = (n : Int) := by
    refine ⟨min 300 (min a.length b.length), by omega, by omega, by omega, ?_⟩
    split <;> split <;> omega
  have one : nf 4607182418800017408 = 4607182418800017408 := by decide +kernel
  have mone : nf 13830554455654793216 = moneF := by decide +kernel
  unfold T_girderlaw09_VectorEven
  rw [awake09, Option.bind_some, Bool.not_true, cF, Option.bind_some, Option.bind_some, ht]
  have s1 := sub_nat (l := a) (i := 0) (j := n) (by omega) hna
  have s2 := sub_nat (l := b) (i := 0) (j := n) (by omega) hnb
  simp only [List.drop_zero, Nat.sub_zero, show ((0 : Nat) : Int) = 0 from rfl] at s1 s2
  rw [s1, Option.bind_some, s2, Option.bind_some]
  have la : (a.take n).length = n := by simp; omega
  have lb : (b.take n).length = n := by simp; omega
  have hA : ∀ i, (a.take n).getD i 0 < 18446744073709551616 := fun i => by
    rw [List.getD_eq_getElem?_getD]
    cases e : (a.take n)[i]? with
    | none => simp
    | some v => exact hwa v (List.mem_of_mem_take (List.mem_of_getElem? e))
  generalize a.take n = x at la hA
  generalize b.take n = y at lb
  have fit : fitV x y = 0 := by unfold fitV; rw [if_pos (by omega), if_neg (by omega)]
  have fit' : fitV y x = 0 := by unfold fitV; rw [if_pos (by omega), if_neg (by omega)]
  have dv : dotV x y = (dotN (fun i => x.getD i 0) (fun i => y.getD i 0) n, 0) := by unfold dotV; rw [if_pos fit, la]
  have dv' : dotV y x = (dotN (fun i => x.getD i 0) (fun i => y.getD i 0) n, 0) := by unfold dotV; rw [if_pos fit', lb, dotN_comm]
  have ex : ∀ g, eachV g x y = (zipV g x y, 0) := fun g => by unfold eachV; rw [if_pos fit]
  have ey : ∀ g, eachV g y x = (zipV g y x, 0) := fun g => by unfold eachV; rw [if_pos fit']
  have e1 : zipV (fun p q => fadd (fmul 4607182418800017408 p) q) x y = zipV fadd x y := by
    unfold zipV
    apply List.map_congr_left
    intro i _
    show fadd (fmul 4607182418800017408 (x.getD i 0)) (y.getD i 0) = _
    rw [fmul_one (hA i)]
    exact fadd_eq (nf_nf _) rfl
  have e2 : zipV (fun p q => fadd (fmul moneF p) q) x y = zipV fsub y x := by
    unfold zipV
    rw [la, lb]
    apply List.map_congr_left
    intro i _
    exact fadd_minus _ (hA i)
  have zl : ∀ g : Nat → Nat → Nat, ∀ u v : List Nat, (zipV g u v).length = u.length := fun g u v => by simp [zipV]
  have sf : ∀ x, T_girderkit_SameFloat x x = some true := fun x => by unfold T_girderkit_SameFloat; simp
  rw [dot_t, dv, Option.bind_some]
  dsimp only
  rw [dot_t, dv', Option.bind_some]
  dsimp only
  rw [one, vaxpy_t, ex, e1, Option.bind_some]
  dsimp only
  rw [vadd_t, ex, Option.bind_some]
  dsimp only
  rw [mone, vaxpy_t, ex, e2, Option.bind_some]
  dsimp only
  rw [vsub_t, ey, Option.bind_some]
  dsimp only
  rw [sf, vsame9_t (by rw [zl]; omega), vsame9_t (by rw [zl]; omega)]
  simp only [bne_self_eq_false, Bool.not_false, Bool.not_true, cT, cF, Option.bind_some, beq_self_eq_true]
  rw [good_t hn la lb ht]
  by_cases hg : ∀ i, i < n → evC (x.getD i 0) = true ∧ evC (y.getD i 0) = true
  · rw [if_pos hg, Option.bind_some]
    dsimp only
    obtain ⟨k', hk', hp⟩ := pick9_t k (n := 41) (by omega) (by omega)
    rw [show (41 : Int) = ((41 : Nat) : Int) from rfl, hp, Option.bind_some]
    have ld := ldexp9_t k' hk'
    rw [one] at ld
    rw [ld, Option.bind_some]
    have hp1 : -20 ≤ (k' : Int) - 20 := by omega
    have hp2 : (k' : Int) - 20 ≤ 20 := by omega
    generalize hpp : (k' : Int) - 20 = p at *
    have ha : ∀ i, i < n → Mg 874 1274 (x.getD i 0) ∧ x.getD i 0 < 18446744073709551616 := fun i hi => ⟨evC_mg (hg i hi).1, hA i⟩
    have hb : ∀ i, i < n → Mg 874 1274 (y.getD i 0) := fun i hi => evC_mg (hg i hi).2
    have ls : ∀ t, (scaleV t x).length = n := fun t => by simp [scaleV, la]
    have fits : ∀ t, fitV (scaleV t x) y = 0 := fun t => by unfold fitV; rw [if_pos (by rw [ls, lb]), if_neg (by rw [ls]; omega)]
    have fits' : ∀ t, fitV x (scaleV t x) = 0 := fun t => by unfold fitV; rw [if_pos (by rw [ls, la]), if_neg (by omega)]
    have dvs : ∀ t, dotV (scaleV t x) y = (dotN (fun i => (scaleV t x).getD i 0) (fun i => y.getD i 0) n, 0) := fun t => by unfold dotV; rw [if_pos (fits t), ls]
    have exs : ∀ t, eachV fadd x (scaleV t x) = (zipV fadd x (scaleV t x), 0) := fun t => by unfold eachV; rw [if_pos (fits' t)]
    have dd := dot_duo hp1 hp2 hn la lb ha hb n (Nat.le_refl _)
    have nd := (norm_duo hp1 hp2 hn la ha n (Nat.le_refl _)).1
    rw [scale_t _ (by omega), Option.bind_some, dot_t, dvs, Option.bind_some]
    dsimp only
    rw [scale_t _ (by omega), Option.bind_some, dot_t, dvs, Option.bind_some]
    dsimp only
    rw [Option.bind_some, vadd_t, exs, Option.bind_some]
    dsimp only
    simp only [beq_self_eq_true, cT, Option.bind_some]
    have q1 : dotN (fun i => (scaleV (pow2F p) x).getD i 0) (fun i => y.getD i 0) n = fmul (pow2F p) (dotN (fun i => x.getD i 0) (fun i => y.getD i 0) n) := by
      rw [fmul_comm]
      obtain ⟨k1, k2⟩ := sc_pow2 (p := p) dd.gr dd.lx (by omega) (by omega) (by omega) (by omega) (by omega) (by omega)
      exact sc_uniq dd.sc k1 dd.ly k2
    have q2 : normN (scaleV (pow2F p) x) n = fmul (pow2F p) (normN x n) := by
      rw [fmul_comm]
      obtain ⟨k1, k2⟩ := sc_pow2 (p := p) nd.gr nd.lx (by omega) (by omega) (by omega) (by omega) (by omega) (by omega)
      exact sc_uniq nd.sc k1 nd.ly k2
    rw [q1, sf, Option.bind_some, cT]
    have o1 : Opp (dotN (fun i => x.getD i 0) (fun i => y.getD i 0) n) (dotN (fun i => (scaleV moneF x).getD i 0) (fun i => y.getD i 0) n) := dot_opp fun i hi => by
      rw [scale_at hp1 hp2 hn la ha hi, fmul_mone (hA i)]
      exact opp_minus _
    rw [like_t o1 (opp_minus _), Option.bind_some, cT]
    have z : normN (zipV fadd x (scaleV moneF x)) n = 0 := norm_none fun i hi => by
      have : (zipV fadd x (scaleV moneF x)).getD i 0 = fadd (x.getD i 0) ((scaleV moneF x).getD i 0) := by
        unfold zipV
        simp [List.getD_eq_getElem?_getD, la, hi]
      rw [this, scale_at hp1 hp2 hn la ha hi, fmul_mone (hA i)]
      exact minus_none (ha i hi).1.fin
    rw [norm_t (by rw [zl]; omega), zl, la, z, Option.bind_some]
    have f0 : feq 0 (nf 0) = true := by decide +kernel
    rw [f0, cT, norm_t (by rw [ls]; omega), ls, Option.bind_some, norm_t (by omega), la, Option.bind_some, q2, sf]; rfl
  · rw [if_neg hg]; rfl

section
variable {N : Nums} {P : Program} (H : AllOk N P)
include H
theorem even09_f {k : Int} {sa sb : Option Addr} {na ma nb mb : Nat} {la lb : List Nat} {w : World} (hA : Reals w sa na ma la) (hB : Reals w sb nb mb lb) (wa : ∀ p ∈ la, p < 18446744073709551616) (wb : ∀ p ∈ lb, p < 18446744073709551616) :
    CallsX P N.f_girderlaw09_VectorEven #[.slice sa na ma, .slice sb nb mb, .int .i64 k] w fun v w' => v = .bool true ∧ ∃ M, St w w' M := by
  have hS := (Ho.arg1 hB).arg (own_cons rfl own_nil) (.ofReals hA)
  exact wk_girderlaw09_VectorEven H hS (Ent.rd mp0) (Ent.rd mp1) (even09 k (nf_words wa) (nf_words wb)) fun w1 h => ⟨rfl, h.some_old⟩
end
end Go.Eng
