/-
  What the functions of the package matrix, of its reference and of the kit come to. No condition.
-/
import Derived.Test.YtfbhhfgelebpnaaSh
import Derived.Test.YtfbhhfgelebpnaaHum
import Derived.Test.YtfbhhfgelebpnaaFl2
set_option maxRecDepth 100000
namespace Go.Eng
open Go

/-- A product's number: the sum of products, in order, from +0. -/
def dotN (f g : Nat → Nat) : Nat → Nat
  | 0 => 0
  | n + 1 => fadd (dotN f g n) (fmul (f n) (g n))

theorem nf_zero : nf 0 = 0 := by decide +kernel
theorem nf_dotN (f g : Nat → Nat) (n : Nat) : nf (dotN f g n) = dotN f g n := by
  cases n with
  | zero => exact nf_zero
  | succ n => exact nf_fadd _ _

/-- A matrix's numbers, up to which NaN. -/
def IsMat (l : List Nat) (rows cols : Nat) (g : Nat → Nat → Nat) : Prop := l.length = rows * cols ∧ ∀ i j, i < rows → j < cols → nf (l.getD (i * cols + j) 0) = g i j

theorem idx_lt {i j rows cols : Nat} (hi : i < rows) (hj : j < cols) : i * cols + j < rows * cols := by
  have : (i + 1) * cols ≤ rows * cols := Nat.mul_le_mul_right _ hi
  rw [Nat.succ_mul] at this
  omega

theorem wr_idx {i j rows cols : Nat} (hi : i < rows) (hj : j < cols) (hb : rows * cols ≤ 1099511627776) : IntKind.i64.wrap (IntKind.i64.wrap ((i : Int) * (cols : Int)) + (j : Int)) = ((i * cols + j : Nat) : Int) := by
  have := idx_lt hi hj
  have h1 : (i : Int) * (cols : Int) = ((i * cols : Nat) : Int) := by simp
  rw [h1, wrN (by omega)]
  have h2 : ((i * cols : Nat) : Int) + (j : Int) = ((i * cols + j : Nat) : Int) := by simp
  rw [h2, wrN (by omega)]

section
variable {N : Nums} {P : Program} (H : AllOk N P)
include H

theorem bits_c (x : Nat) (w : World) : CallsX P N.f_math_Float64bits #[.float .f64 x] w fun v w' => v = .int .u64 x ∧ St w w' [] :=
  H.math_Float64bits x w _ ⟨rfl, St.refl _⟩

theorem fits_c (n : Int) (w : World) : CallsX P N.f_matrix_fits #[.int .i64 n] w fun v w' => v = .bool (decide (0 ≤ n ∧ n ≤ 48)) ∧ St w w' [] := by
  refine H.matrix_fits n w _ ?_
  unfold S_matrix_fits
  refine cond_i (fun h => ?_) (fun h => ?_)
  · exact ⟨by simp at h; simp [h], St.refl _⟩
  · exact ⟨by simp at h; simp; omega, St.refl _⟩

theorem may_c (n : Int) (w : World) : CallsX P N.f_girderref10_may #[.int .i64 n] w fun v w' => v = .bool (decide (0 ≤ n ∧ n ≤ 48)) ∧ St w w' [] := by
  refine H.girderref10_may n w _ ?_
  unfold S_girderref10_may
  refine cond_i (fun h => ?_) (fun h => ?_)
  · exact ⟨by simp at h; simp [h], St.refl _⟩
  · exact ⟨by simp at h; simp; omega, St.refl _⟩

theorem sameFloat_c (x y : Nat) (w : World) : CallsX P N.f_girderkit_SameFloat #[.float .f64 x, .float .f64 y] w fun v w' => v = .bool (nf x == nf y) ∧ St w w' [] := by
  refine H.girderkit_SameFloat x y w _ ?_
  unfold S_girderkit_SameFloat
  refine (bits_c H x w).mono ?_
  rintro _ w1 ⟨rfl, h1⟩
  refine ⟨_, rfl, ?_⟩
  refine (bits_c H y w1).mono ?_
  rintro _ w2 ⟨rfl, h2⟩
  refine ⟨_, rfl, ?_⟩
  have hS := h1.next h2
  have hxy : (((x : Nat) : Int) == ((y : Nat) : Int)) = (x == y) := by rw [Bool.eq_iff_iff]; simp; omega
  rw [same_bits, hxy, feq_self, feq_self]
  cases x == y <;> cases isNaN x <;> exact ⟨by simp, hS⟩

theorem sameReals_c {w : World} {a b : Option Addr} {n c m d : Nat} {l k : List Nat} (ha : Reals w a n c l) (hb : Reals w b m d k) (hn : n ≤ 1099511627776) :
    CallsX P N.f_girderkit_SameReals #[.slice a n c, .slice b m d] w fun v w' => v = .bool (l.map nf == k.map nf) ∧ St w w' [] := by
  refine H.girderkit_SameReals a n c b m d w _ ?_
  unfold S_girderkit_SameReals
  refine cond_i (fun h => ?_) (fun h => ?_)
  · refine ⟨?_, St.refl _⟩
    congr 1
    simp at h
    have : ¬ (l.map nf = k.map nf) := fun he => by
      have := congrArg List.length he
      simp [ha.len, hb.len] at this
      omega
    simp [this]
  · have hnm : n = m := by
      have : (n : Int) = m := by simpa using h
      omega
    refine cutM_i (fun _ w' => St w w' [] ∧ l.map nf = k.map nf) (fun J hJ => ?_) (fun _ w' ⟨hS, he⟩ => ⟨by simp [he], hS⟩)
    refine loopM_i (fun s w' => St w w' [] ∧ ∃ i : Nat, s.1 = (i : Int) ∧ i ≤ n ∧ ∀ j, j < i → nf (l.getD j 0) = nf (k.getD j 0)) (fun s => n - s.1.toNat) ⟨St.refl _, 0, rfl, by omega, fun j hj => by omega⟩ ?_
    rintro ⟨s, u⟩ w' X ⟨hS, i, hi, hin, hall⟩ hX
    dsimp only at hi
    subst hi
    refine cond_i (fun h => ?_) (fun h => ?_)
    · have hlt : i < n := by simpa using h
      have ha' := ha.keep hS
      have hb' := hb.keep hS
      refine ⟨by omega, by dsimp only; omega, ha'.read (i := i) hlt fun x hx => ⟨_, by simpa using hx, by omega, by dsimp only; omega, hb'.read (i := i) (by omega) fun y hy => ⟨_, by simpa using hy, ?_⟩⟩⟩
      (first | ((with_reducible first | apply ldI hS | apply ldS hS | apply hldS hS | apply hldI hS | apply ldF hS | apply ldP hS | apply ldB hS | apply hldF hS); (case ha => exact rfl); (case he => (repeat (first | exact .head _ | refine .tail _ ?_))); (case hc => exact rfl)) | (guard_target = newM _ _ _ _; refine newM_i hS ?_; clear hS; intro _ w hS) | (guard_target = drM _ _; refine drM_i hS ?_; clear hS; intro w hS) | (guard_target = stM _ _ _ _; (first | refine st0 hS rfl rfl ?_ | refine st1 hS rfl rfl ?_ | refine st2 hS rfl rfl ?_ | refine st3 hS rfl rfl ?_ | refine st4 hS rfl rfl ?_ | refine st5 hS rfl rfl ?_ | refine st6 hS rfl rfl ?_ | refine st7 hS rfl rfl ?_); clear hS; intro w hS) | (guard_target = optM (some _) _; refine optM_mk rfl ?_) | (with_reducible (refine ⟨_, hS.cell ‹_›, ?_⟩)) | (with_reducible (refine ⟨_, _, _, hS.cell ‹_›, ?_⟩)) | (with_reducible (refine ⟨hS.cell ‹_›, ?_⟩)))
      refine (sameFloat_c H _ _ w).mono ?_
      rintro _ w1 ⟨rfl, h1⟩
      refine ⟨_, rfl, ?_⟩
      have hS := hS.next h1
      refine drM_i hS fun w2 hS => ?_
      refine cond_i (fun h => ?_) (fun h => ?_)
      · refine ⟨?_, hS⟩
        congr 1
        have hne : nf (l.getD i 0) ≠ nf (k.getD i 0) := by simpa using h
        have : ¬ (l.map nf = k.map nf) := fun he => by
          apply hne
          have h1 : (l.map nf)[i]? = (k.map nf)[i]? := by rw [he]
          have hl := ha.len
          have hk := hb.len
          simpa [hl, hk, hlt, ← hnm] using h1
        simp [this]
      · have heq : nf (l.getD i 0) = nf (k.getD i 0) := by simpa using h
        have hw : IntKind.i64.wrap ((i : Int) + 1) = ((i + 1 : Nat) : Int) := by rw [← wrN (n := i + 1) (by omega)]; rfl
        refine hX _ _ ⟨hS, i + 1, hw, by omega, fun j hj => ?_⟩ ?_
        · by_cases hji : j = i
          · subst hji; exact heq
          · exact hall j (by omega)
        · dsimp only
          rw [hw]; omega
    · have hge : n ≤ i := by simpa using h
      refine hJ _ _ ⟨hS, ?_⟩
      apply List.ext_getElem
      · simp [ha.len, hb.len, hnm]
      · intro j h1 h2
        have hl := ha.len
        have hk := hb.len
        have := hall j (by simp at h1; omega)
        simp at h1 h2
        simpa [h1, h2] using this

/-- Is a matrix right? -/
def rightB (r c : Int) (n : Nat) : Bool := decide (0 ≤ r ∧ r ≤ 48) && decide (0 ≤ c ∧ c ≤ 48) && decide ((n : Int) = r * c)

omit H in
theorem rightB_nat {r c : Int} {n : Nat} (h : rightB r c n = true) : ∃ a b : Nat, r = a ∧ c = b ∧ a ≤ 48 ∧ b ≤ 48 ∧ n = a * b := by
  simp only [rightB, Bool.and_eq_true, decide_eq_true_eq] at h
  obtain ⟨⟨⟨h1, h2⟩, h3, h4⟩, h5⟩ := h
  obtain ⟨a, rfl⟩ := Int.eq_ofNat_of_zero_le h1
  obtain ⟨b, rfl⟩ := Int.eq_ofNat_of_zero_le h3
  refine ⟨a, b, rfl, rfl, by omega, by omega, ?_⟩
  have : ((n : Nat) : Int) = ((a * b : Nat) : Int) := by rw [h5]; simp
  omega

omit H in
theorem wrap_mul48 {r c : Int} (h1 : 0 ≤ r ∧ r ≤ 48) (h2 : 0 ≤ c ∧ c ≤ 48) : IntKind.i64.wrap (r * c) = r * c := by
  obtain ⟨a, rfl⟩ := Int.eq_ofNat_of_zero_le h1.1
  obtain ⟨b, rfl⟩ := Int.eq_ofNat_of_zero_le h2.1
  have : a * b ≤ 48 * 48 := Nat.mul_le_mul (by omega) (by omega)
  have e : (a : Int) * (b : Int) = ((a * b : Nat) : Int) := by simp
  rw [e, wrN (by omega)]

theorem right_c (r c : Int) (a : Option Addr) (n m : Nat) (w : World) : CallsX P N.f_matrix_Right #[.agg #[.int .i64 r, .int .i64 c, .slice a n m]] w fun v w' => v = .bool (rightB r c n) ∧ ∃ M, St w w' M := by
  refine H.matrix_Right r c a n m w _ ?_
  unfold S_matrix_Right
  have hS := St.refl w
  (repeat (first | ((with_reducible first | apply ldI hS | apply ldS hS | apply hldS hS | apply hldI hS | apply ldF hS | apply ldP hS | apply ldB hS | apply hldF hS); (case ha => exact rfl); (case he => (repeat (first | exact .head _ | refine .tail _ ?_))); (case hc => exact rfl)) | (guard_target = newM _ _ _ _; refine newM_i hS ?_; clear hS; intro _ w hS) | (guard_target = drM _ _; refine drM_i hS ?_; clear hS; intro w hS) | (guard_target = stM _ _ _ _; (first | refine st0 hS rfl rfl ?_ | refine st1 hS rfl rfl ?_ | refine st2 hS rfl rfl ?_ | refine st3 hS rfl rfl ?_ | refine st4 hS rfl rfl ?_ | refine st5 hS rfl rfl ?_ | refine st6 hS rfl rfl ?_ | refine st7 hS rfl rfl ?_); clear hS; intro w hS) | (guard_target = optM (some _) _; refine optM_mk rfl ?_) | (with_reducible (refine ⟨_, hS.cell ‹_›, ?_⟩)) | (with_reducible (refine ⟨_, _, _, hS.cell ‹_›, ?_⟩)) | (with_reducible (refine ⟨hS.cell ‹_›, ?_⟩))))
  refine (fits_c H _ _).mono ?_
  rintro _ w1 ⟨rfl, h1⟩
  replace hS := hS.next h1
  refine ⟨_, rfl, cond_i (fun hb => ?_) (fun hb => ?_)⟩
  · (repeat (first | ((with_reducible first | apply ldI hS | apply ldS hS | apply hldS hS | apply hldI hS | apply ldF hS | apply ldP hS | apply ldB hS | apply hldF hS); (case ha => exact rfl); (case he => (repeat (first | exact .head _ | refine .tail _ ?_))); (case hc => exact rfl)) | (guard_target = newM _ _ _ _; refine newM_i hS ?_; clear hS; intro _ w hS) | (guard_target = drM _ _; refine drM_i hS ?_; clear hS; intro w hS) | (guard_target = stM _ _ _ _; (first | refine st0 hS rfl rfl ?_ | refine st1 hS rfl rfl ?_ | refine st2 hS rfl rfl ?_ | refine st3 hS rfl rfl ?_ | refine st4 hS rfl rfl ?_ | refine st5 hS rfl rfl ?_ | refine st6 hS rfl rfl ?_ | refine st7 hS rfl rfl ?_); clear hS; intro w hS) | (guard_target = optM (some _) _; refine optM_mk rfl ?_) | (with_reducible (refine ⟨_, hS.cell ‹_›, ?_⟩)) | (with_reducible (refine ⟨_, _, _, hS.cell ‹_›, ?_⟩)) | (with_reducible (refine ⟨hS.cell ‹_›, ?_⟩))))
    refine (fits_c H _ _).mono ?_
    rintro _ w2 ⟨rfl, h2⟩
    replace hS := hS.next h2
    refine ⟨_, rfl, cond_i (fun hb2 => ?_) (fun hb2 => ?_)⟩
    · (repeat (first | ((with_reducible first | apply ldI hS | apply ldS hS | apply hldS hS | apply hldI hS | apply ldF hS | apply ldP hS | apply ldB hS | apply hldF hS); (case ha => exact rfl); (case he => (repeat (first | exact .head _ | refine .tail _ ?_))); (case hc => exact rfl)) | (guard_target = newM _ _ _ _; refine newM_i hS ?_; clear hS; intro _ w hS) | (guard_target = drM _ _; refine drM_i hS ?_; clear hS; intro w hS) | (guard_target = stM _ _ _ _; (first | refine st0 hS rfl rfl ?_ | refine st1 hS rfl rfl ?_ | refine st2 hS rfl rfl ?_ | refine st3 hS rfl rfl ?_ | refine st4 hS rfl rfl ?_ | refine st5 hS rfl rfl ?_ | refine st6 hS rfl rfl ?_ | refine st7 hS rfl rfl ?_); clear hS; intro w hS) | (guard_target = optM (some _) _; refine optM_mk rfl ?_) | (with_reducible (refine ⟨_, hS.cell ‹_›, ?_⟩)) | (with_reducible (refine ⟨_, _, _, hS.cell ‹_›, ?_⟩)) | (with_reducible (refine ⟨hS.cell ‹_›, ?_⟩))))
      refine ⟨?_, _, hS⟩
      simp only [decide_eq_true_eq] at hb hb2
      rw [wrap_mul48 hb hb2]
      simp only [rightB, hb, hb2, and_self, decide_true, Bool.true_and]
      congr 1
    · exact ⟨by simp [rightB, hb2], _, hS⟩
  · exact ⟨by simp [rightB, hb], _, hS⟩

theorem rright_c (r c : Int) (a : Option Addr) (n m : Nat) (w : World) : CallsX P N.f_girderref10_Right #[.agg #[.int .i64 r, .int .i64 c, .slice a n m]] w fun v w' => v = .bool (rightB r c n) ∧ ∃ M, St w w' M := by
  refine H.girderref10_Right r c a n m w _ ?_
  unfold S_girderref10_Right
  have hS := St.refl w
  (repeat (first | ((with_reducible first | apply ldI hS | apply ldS hS | apply hldS hS | apply hldI hS | apply ldF hS | apply ldP hS | apply ldB hS | apply hldF hS); (case ha => exact rfl); (case he => (repeat (first | exact .head _ | refine .tail _ ?_))); (case hc => exact rfl)) | (guard_target = newM _ _ _ _; refine newM_i hS ?_; clear hS; intro _ w hS) | (guard_target = drM _ _; refine drM_i hS ?_; clear hS; intro w hS) | (guard_target = stM _ _ _ _; (first | refine st0 hS rfl rfl ?_ | refine st1 hS rfl rfl ?_ | refine st2 hS rfl rfl ?_ | refine st3 hS rfl rfl ?_ | refine st4 hS rfl rfl ?_ | refine st5 hS rfl rfl ?_ | refine st6 hS rfl rfl ?_ | refine st7 hS rfl rfl ?_); clear hS; intro w hS) | (guard_target = optM (some _) _; refine optM_mk rfl ?_) | (with_reducible (refine ⟨_, hS.cell ‹_›, ?_⟩)) | (with_reducible (refine ⟨_, _, _, hS.cell ‹_›, ?_⟩)) | (with_reducible (refine ⟨hS.cell ‹_›, ?_⟩))))
  refine (may_c H _ _).mono ?_
  rintro _ w1 ⟨rfl, h1⟩
  replace hS := hS.next h1
  refine ⟨_, rfl, cond_i (fun hb => ?_) (fun hb => ?_)⟩
  · (repeat (first | ((with_reducible first | apply ldI hS | apply ldS hS | apply hldS hS | apply hldI hS | apply ldF hS | apply ldP hS | apply ldB hS | apply hldF hS); (case ha => exact rfl); (case he => (repeat (first | exact .head _ | refine .tail _ ?_))); (case hc => exact rfl)) | (guard_target = newM _ _ _ _; refine newM_i hS ?_; clear hS; intro _ w hS) | (guard_target = drM _ _; refine drM_i hS ?_; clear hS; intro w hS) | (guard_target = stM _ _ _ _; (first | refine st0 hS rfl rfl ?_ | refine st1 hS rfl rfl ?_ | refine st2 hS rfl rfl ?_ | refine st3 hS rfl rfl ?_ | refine st4 hS rfl rfl ?_ | refine st5 hS rfl rfl ?_ | refine st6 hS rfl rfl ?_ | refine st7 hS rfl rfl ?_); clear hS; intro w hS) | (guard_target = optM (some _) _; refine optM_mk rfl ?_) | (with_reducible (refine ⟨_, hS.cell ‹_›, ?_⟩)) | (with_reducible (refine ⟨_, _, _, hS.cell ‹_›, ?_⟩)) | (with_reducible (refine ⟨hS.cell ‹_›, ?_⟩))))
    refine (may_c H _ _).mono ?_
    rintro _ w2 ⟨rfl, h2⟩
    replace hS := hS.next h2
    refine ⟨_, rfl, cond_i (fun hb2 => ?_) (fun hb2 => ?_)⟩
    · (repeat (first | ((with_reducible first | apply ldI hS | apply ldS hS | apply hldS hS | apply hldI hS | apply ldF hS | apply ldP hS | apply ldB hS | apply hldF hS); (case ha => exact rfl); (case he => (repeat (first | exact .head _ | refine .tail _ ?_))); (case hc => exact rfl)) | (guard_target = newM _ _ _ _; refine newM_i hS ?_; clear hS; intro _ w hS) | (guard_target = drM _ _; refine drM_i hS ?_; clear hS; intro w hS) | (guard_target = stM _ _ _ _; (first | refine st0 hS rfl rfl ?_ | refine st1 hS rfl rfl ?_ | refine st2 hS rfl rfl ?_ | refine st3 hS rfl rfl ?_ | refine st4 hS rfl rfl ?_ | refine st5 hS rfl rfl ?_ | refine st6 hS rfl rfl ?_ | refine st7 hS rfl rfl ?_); clear hS; intro w hS) | (guard_target = optM (some _) _; refine optM_mk rfl ?_) | (with_reducible (refine ⟨_, hS.cell ‹_›, ?_⟩)) | (with_reducible (refine ⟨_, _, _, hS.cell ‹_›, ?_⟩)) | (with_reducible (refine ⟨hS.cell ‹_›, ?_⟩))))
      refine ⟨?_, _, hS⟩
      simp only [decide_eq_true_eq] at hb hb2
      rw [wrap_mul48 hb hb2]
      simp only [rightB, hb, hb2, and_self, decide_true, Bool.true_and]
      congr 1
    · exact ⟨by simp [rightB, hb2], _, hS⟩
  · exact ⟨by simp [rightB, hb], _, hS⟩

theorem laid_c {rows cols : Nat} (hr : rows ≤ 48) (hc : cols ≤ 48) (fv : Value) (g : Nat → Nat → Nat) (w0 : World)
    (hf : ∀ (i j : Nat) (w' : World) (M : List (Nat × Array Value × Nat)), i < rows → j < cols → St w0 w' M →
      fnM fv fun f p q => CallsX P f (p.toList ++ (([.int .i64 i, .int .i64 j] : List Value) ++ q.toList)).toArray w' fun v w'' => ∃ x, v = .float .f64 x ∧ nf x = g i j ∧ St w' w'' []) :
    CallsX P N.f_matrix_laid #[.int .i64 rows, .int .i64 cols, fv] w0 fun v w' => ∃ (r : Nat) (l : List Nat) (M : List (Nat × Array Value × Nat)),
      v = .agg #[.int .i64 rows, .int .i64 cols, .slice (some ⟨r, 0, none⟩) (rows * cols) (rows * cols)] ∧ IsMat l rows cols g ∧ St w0 w' M ∧ (r, flts l, N.t_float64) ∈ M := by
  refine H.matrix_laid rows cols fv w0 _ ?_
  unfold S_matrix_laid
  have hS := St.refl w0
  have hrc : rows * cols ≤ 2304 := Nat.le_trans (Nat.mul_le_mul hr hc) (by omega)
  have e : IntKind.i64.wrap ((rows : Int) * (cols : Int)) = ((rows * cols : Nat) : Int) := by
    have h1 : (rows : Int) * (cols : Int) = ((rows * cols : Nat) : Int) := by simp
    rw [h1, wrN (by omega)]
  rw [e]
  (first | ((with_reducible first | apply ldI hS | apply ldS hS | apply hldS hS | apply hldI hS | apply ldF hS | apply ldP hS | apply ldB hS | apply hldF hS); (case ha => exact rfl); (case he => (repeat (first | exact .head _ | refine .tail _ ?_))); (case hc => exact rfl)) | (guard_target = newM _ _ _ _; refine newM_i hS ?_; clear hS; intro _ w hS) | (guard_target = drM _ _; refine drM_i hS ?_; clear hS; intro w hS) | (guard_target = stM _ _ _ _; (first | refine st0 hS rfl rfl ?_ | refine st1 hS rfl rfl ?_ | refine st2 hS rfl rfl ?_ | refine st3 hS rfl rfl ?_ | refine st4 hS rfl rfl ?_ | refine st5 hS rfl rfl ?_ | refine st6 hS rfl rfl ?_ | refine st7 hS rfl rfl ?_); clear hS; intro w hS) | (guard_target = optM (some _) _; refine optM_mk rfl ?_) | (with_reducible (refine ⟨_, hS.cell ‹_›, ?_⟩)) | (with_reducible (refine ⟨_, _, _, hS.cell ‹_›, ?_⟩)) | (with_reducible (refine ⟨hS.cell ‹_›, ?_⟩)))
  refine mkM_i hS (by omega) (by omega) (by omega) (by omega) ?_
  clear hS; intro r3 w hS
  rw [Int.toNat_natCast, Nat.mul_one, zrow_flts] at hS
  rw [Int.toNat_natCast]
  (repeat (first | ((with_reducible first | apply ldI hS | apply ldS hS | apply hldS hS | apply hldI hS | apply ldF hS | apply ldP hS | apply ldB hS | apply hldF hS); (case ha => exact rfl); (case he => (repeat (first | exact .head _ | refine .tail _ ?_))); (case hc => exact rfl)) | (guard_target = newM _ _ _ _; refine newM_i hS ?_; clear hS; intro _ w hS) | (guard_target = drM _ _; refine drM_i hS ?_; clear hS; intro w hS) | (guard_target = stM _ _ _ _; (first | refine st0 hS rfl rfl ?_ | refine st1 hS rfl rfl ?_ | refine st2 hS rfl rfl ?_ | refine st3 hS rfl rfl ?_ | refine st4 hS rfl rfl ?_ | refine st5 hS rfl rfl ?_ | refine st6 hS rfl rfl ?_ | refine st7 hS rfl rfl ?_); clear hS; intro w hS) | (guard_target = optM (some _) _; refine optM_mk rfl ?_) | (with_reducible (refine ⟨_, hS.cell ‹_›, ?_⟩)) | (with_reducible (refine ⟨_, _, _, hS.cell ‹_›, ?_⟩)) | (with_reducible (refine ⟨hS.cell ‹_›, ?_⟩))))
  rename_i r1 _ _ r5 _ _ _
  replace hS : St w0 w [(r5, #[.int .i64 rows, .int .i64 cols, .slice (some ⟨r3, 0, none⟩) (rows * cols) (rows * cols)], N.t_Matrix), (r3, flts (List.replicate (rows * cols) 0), N.t_float64),
    (r1, #[.int .i64 0, .int .i64 0, .slice none 0 0], N.t_Matrix)] := hS
  -- what has been filled in so far
  let Own (w' : World) (l : List Nat) : Prop := St w0 w' [(r5, #[.int .i64 rows, .int .i64 cols, .slice (some ⟨r3, 0, none⟩) (rows * cols) (rows * cols)], N.t_Matrix), (r3, flts l, N.t_float64),
    (r1, #[.int .i64 0, .int .i64 0, .slice none 0 0], N.t_Matrix)]
  refine cutM_i (fun _ w' => ∃ l, l.length = rows * cols ∧ (∀ i j, i < rows → j < cols → nf (l.getD (i * cols + j) 0) = g i j) ∧ Own w' l) (fun J hJ => ?_) ?_
  · refine loopM_i (fun s w' => ∃ (i : Nat) (l : List Nat), s.1 = (i : Int) ∧ i ≤ rows ∧ l.length = rows * cols ∧ (∀ i' j, i' < i → j < cols → nf (l.getD (i' * cols + j) 0) = g i' j) ∧ Own w' l) (fun s => rows - s.1.toNat)
      ⟨0, _, rfl, by omega, by simp, fun i' j hi => by omega, hS⟩ ?_
    clear hS
    rintro ⟨s, u⟩ w X ⟨i, l, hi, hir, hl, hall, hS⟩ hX
    dsimp only at hi
    subst hi
    refine cond_i (fun hb => ?_) (fun hb => ?_)
    · have hlt : i < rows := by simpa using hb
      refine cutM_i (fun _ w' => ∃ l, l.length = rows * cols ∧ (∀ i' j, i' < i + 1 → j < cols → nf (l.getD (i' * cols + j) 0) = g i' j) ∧ Own w' l) (fun J2 hJ2 => ?_) ?_
      · refine loopM_i (fun s w' => ∃ (j : Nat) (l : List Nat), s.1 = (j : Int) ∧ j ≤ cols ∧ l.length = rows * cols ∧ (∀ i' j', i' < i → j' < cols → nf (l.getD (i' * cols + j') 0) = g i' j') ∧ (∀ j', j' < j → nf (l.getD (i * cols + j') 0) = g i j') ∧ Own w' l)
          (fun s => cols - s.1.toNat) ⟨0, l, rfl, by omega, hl, hall, fun j' hj => by omega, hS⟩ ?_
        clear hS hX hJ hall hl
        rintro ⟨s, u⟩ w X ⟨j, l, hj, hjc, hl, hall, hrow, hS⟩ hX
        dsimp only at hj
        subst hj
        dsimp only [Own] at hS
        refine cond_i (fun hb2 => ?_) (fun hb2 => ?_)
        · have hlt2 : j < cols := by simpa using hb2
          have hix := wr_idx hlt hlt2 (by omega)
          have hlt3 := idx_lt hlt hlt2
          (repeat (first | ((with_reducible first | apply ldI hS | apply ldS hS | apply hldS hS | apply hldI hS | apply ldF hS | apply ldP hS | apply ldB hS | apply hldF hS); (case ha => exact rfl); (case he => (repeat (first | exact .head _ | refine .tail _ ?_))); (case hc => exact rfl)) | (guard_target = newM _ _ _ _; refine newM_i hS ?_; clear hS; intro _ w hS) | (guard_target = drM _ _; refine drM_i hS ?_; clear hS; intro w hS) | (guard_target = stM _ _ _ _; (first | refine st0 hS rfl rfl ?_ | refine st1 hS rfl rfl ?_ | refine st2 hS rfl rfl ?_ | refine st3 hS rfl rfl ?_ | refine st4 hS rfl rfl ?_ | refine st5 hS rfl rfl ?_ | refine st6 hS rfl rfl ?_ | refine st7 hS rfl rfl ?_); clear hS; intro w hS) | (guard_target = optM (some _) _; refine optM_mk rfl ?_) | (with_reducible (refine ⟨_, hS.cell ‹_›, ?_⟩)) | (with_reducible (refine ⟨_, _, _, hS.cell ‹_›, ?_⟩)) | (with_reducible (refine ⟨hS.cell ‹_›, ?_⟩))))
          have hcall := hf i j w _ hlt hlt2 hS
          unfold fnM at hcall ⊢
          split at hcall
          · rename_i f p q
            refine hcall.mono ?_
            rintro _ w1 ⟨x, rfl, hx, h1⟩
            replace hS := hS.next h1
            rw [List.nil_append] at hS
            refine ⟨x, rfl, ?_⟩
            dsimp only
            rw [hix]
            (first | ((with_reducible first | apply ldI hS | apply ldS hS | apply hldS hS | apply hldI hS | apply ldF hS | apply ldP hS | apply ldB hS | apply hldF hS); (case ha => exact rfl); (case he => (repeat (first | exact .head _ | refine .tail _ ?_))); (case hc => exact rfl)) | (guard_target = newM _ _ _ _; refine newM_i hS ?_; clear hS; intro _ w hS) | (guard_target = drM _ _; refine drM_i hS ?_; clear hS; intro w hS) | (guard_target = stM _ _ _ _; (first | refine st0 hS rfl rfl ?_ | refine st1 hS rfl rfl ?_ | refine st2 hS rfl rfl ?_ | refine st3 hS rfl rfl ?_ | refine st4 hS rfl rfl ?_ | refine st5 hS rfl rfl ?_ | refine st6 hS rfl rfl ?_ | refine st7 hS rfl rfl ?_); clear hS; intro w hS) | (guard_target = optM (some _) _; refine optM_mk rfl ?_) | (with_reducible (refine ⟨_, hS.cell ‹_›, ?_⟩)) | (with_reducible (refine ⟨_, _, _, hS.cell ‹_›, ?_⟩)) | (with_reducible (refine ⟨hS.cell ‹_›, ?_⟩)))
            refine ⟨by omega, by omega, optM_mk rfl ?_⟩
            refine drM_i hS ?_
            clear hS; intro w hS
            rw [Int.toNat_natCast, Nat.mul_one]
            refine st1 hS (add_at _ _) (by rw [flts_size, hl]; simp [Nat.blt]; omega) ?_
            clear hS; intro w hS
            rw [flts_set] at hS
            refine drM_i hS ?_
            clear hS; intro w hS
            have hw : IntKind.i64.wrap ((j : Int) + 1) = ((j + 1 : Nat) : Int) := by rw [← wrN (n := j + 1) (by omega)]; rfl
            refine hX _ _ ⟨j + 1, _, hw, by omega, by simpa using hl, ?_, ?_, hS⟩ ?_
            · intro i' j' hi' hj'
              have hne : i * cols + j ≠ i' * cols + j' := by
                have : (i' + 1) * cols ≤ i * cols := Nat.mul_le_mul_right _ hi'
                rw [Nat.succ_mul] at this
                omega
              rw [List.getD_eq_getElem?_getD, List.getElem?_set_ne hne, ← List.getD_eq_getElem?_getD]
              exact hall i' j' hi' hj'
            · intro j' hj'
              by_cases hjj : j' = j
              · subst hjj
                rw [List.getD_eq_getElem?_getD, List.getElem?_set_self (by omega)]
                exact hx
              · have hne : i * cols + j ≠ i * cols + j' := by omega
                rw [List.getD_eq_getElem?_getD, List.getElem?_set_ne hne, ← List.getD_eq_getElem?_getD]
                exact hrow j' (by omega)
            · dsimp only; rw [hw]; omega
          · exact hcall.elim
        · have hge : cols ≤ j := by simpa using hb2
          refine hJ2 _ _ ⟨l, hl, fun i' j' hi' hj' => ?_, hS⟩
          by_cases hii : i' = i
          · subst hii; exact hrow j' (by omega)
          · exact hall i' j' (by omega) hj'
      · rintro _ w ⟨l, hl, hall, hS⟩
        have hw : IntKind.i64.wrap ((i : Int) + 1) = ((i + 1 : Nat) : Int) := by rw [← wrN (n := i + 1) (by omega)]; rfl
        exact hX _ _ ⟨i + 1, l, hw, by omega, hl, hall, hS⟩ (by dsimp only; rw [hw]; omega)
    · have hge : rows ≤ i := by simpa using hb
      exact hJ _ _ ⟨l, hl, fun i' j hi' hj => hall i' j (by omega) hj, hS⟩
  · clear hS
    rintro _ w ⟨l, hl, hall, hS⟩
    dsimp only [Own] at hS
    (repeat (first | ((with_reducible first | apply ldI hS | apply ldS hS | apply hldS hS | apply hldI hS | apply ldF hS | apply ldP hS | apply ldB hS | apply hldF hS); (case ha => exact rfl); (case he => (repeat (first | exact .head _ | refine .tail _ ?_))); (case hc => exact rfl)) | (guard_target = newM _ _ _ _; refine newM_i hS ?_; clear hS; intro _ w hS) | (guard_target = drM _ _; refine drM_i hS ?_; clear hS; intro w hS) | (guard_target = stM _ _ _ _; (first | refine st0 hS rfl rfl ?_ | refine st1 hS rfl rfl ?_ | refine st2 hS rfl rfl ?_ | refine st3 hS rfl rfl ?_ | refine st4 hS rfl rfl ?_ | refine st5 hS rfl rfl ?_ | refine st6 hS rfl rfl ?_ | refine st7 hS rfl rfl ?_); clear hS; intro w hS) | (guard_target = optM (some _) _; refine optM_mk rfl ?_) | (with_reducible (refine ⟨_, hS.cell ‹_›, ?_⟩)) | (with_reducible (refine ⟨_, _, _, hS.cell ‹_›, ?_⟩)) | (with_reducible (refine ⟨hS.cell ‹_›, ?_⟩))))
    exact ⟨r3, l, _, rfl, ⟨hl, hall⟩, hS, by simp⟩

end
end Go.Eng
