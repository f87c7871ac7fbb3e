/-
  Words of 32 bits, the least first, beside natural numbers: value, digits, the words of a number. No condition. (Groundwork for the whole numbers of any size.)
-/
import Derived.Test.YtmecjaojkegamaaGreatDoorPl
set_option linter.unusedVariables false
set_option linter.unusedSimpArgs false
set_option linter.unnecessarySimpa false
set_option linter.unusedSectionVars false
set_option maxRecDepth 100000
set_option maxHeartbeats 4000000
namespace Go.Eng

/-- The value of words. -/
def wv : List Int → Nat
  | [] => 0
  | x :: l => x.toNat + 4294967296 * wv l
/-- Words they are. -/
def Wd (l : List Int) : Prop := ∀ x ∈ l, 0 ≤ x ∧ x < 4294967296

theorem wd_nil : Wd [] := fun x h => by cases h
theorem wd_cons {x : Int} {l : List Int} (h0 : 0 ≤ x) (h1 : x < 4294967296) (h : Wd l) : Wd (x :: l) := by
  intro y hy
  rcases List.mem_cons.1 hy with rfl | hy
  · exact ⟨h0, h1⟩
  · exact h y hy
theorem wd_tail {x : Int} {l : List Int} (h : Wd (x :: l)) : Wd l := fun y hy => h y (List.mem_cons_of_mem _ hy)
theorem wd_head {x : Int} {l : List Int} (h : Wd (x :: l)) : 0 ≤ x ∧ x < 4294967296 := h x (List.mem_cons_self ..)
theorem wd_append {l m : List Int} (h : Wd l) (k : Wd m) : Wd (l ++ m) := by
  intro y hy
  rcases List.mem_append.1 hy with hy | hy
  · exact h y hy
  · exact k y hy
theorem wd_rep (n : Nat) : Wd (List.replicate n 0) := by
  intro y hy
  rw [(List.mem_replicate.1 hy).2]; omega
theorem wd_set {l : List Int} {x : Int} {k : Nat} (h : Wd l) (h0 : 0 ≤ x) (h1 : x < 4294967296) : Wd (l.set k x) := by
  intro y hy
  rcases List.mem_or_eq_of_mem_set hy with hy | rfl
  · exact h y hy
  · exact ⟨h0, h1⟩
theorem wd_take {l : List Int} (h : Wd l) (n : Nat) : Wd (l.take n) := fun y hy => h y (List.mem_of_mem_take hy)
theorem wd_drop {l : List Int} (h : Wd l) (n : Nat) : Wd (l.drop n) := fun y hy => h y (List.mem_of_mem_drop hy)
theorem wd_get {l : List Int} (h : Wd l) (k : Nat) : 0 ≤ l.getD k 0 ∧ l.getD k 0 < 4294967296 := by
  rcases Nat.lt_or_ge k l.length with hk | hk
  · rw [List.getD_eq_getElem?_getD, List.getElem?_eq_getElem hk]
    exact h _ (List.getElem_mem hk)
  · rw [List.getD_eq_getElem?_getD, List.getElem?_eq_none hk]
    exact ⟨Int.le_refl _, by decide⟩

theorem wv_append (l m : List Int) : wv (l ++ m) = wv l + 4294967296 ^ l.length * wv m := by
  induction l with
  | nil => simp [wv]
  | cons x l ih => simp only [List.cons_append, wv, ih, List.length_cons, Nat.pow_succ]; grind
theorem wv_rep (n : Nat) : wv (List.replicate n 0) = 0 := by
  induction n with
  | zero => rfl
  | succ n ih => rw [List.replicate_succ]; simp [wv, ih]
theorem wv_lt {l : List Int} (h : Wd l) : wv l < 4294967296 ^ l.length := by
  induction l with
  | nil => simp [wv]
  | cons x l ih =>
    have h1 := ih (wd_tail h)
    have h2 := wd_head h
    simp only [wv, List.length_cons, Nat.pow_succ]
    generalize 4294967296 ^ l.length = P at *
    omega
/-- A word put in another one's place. -/
theorem wv_set {l : List Int} (x : Int) {k : Nat} (hk : k < l.length) : wv (l.set k x) + (l.getD k 0).toNat * 4294967296 ^ k = wv l + x.toNat * 4294967296 ^ k := by
  induction l generalizing k with
  | nil => simp at hk
  | cons y l ih =>
    cases k with
    | zero => simp [wv]; omega
    | succ k =>
      have := ih (k := k) (by simpa using hk)
      simp only [List.set_cons_succ, wv, List.getD_cons_succ, Nat.pow_succ]
      grind

/-- The word in a place. -/
def dg (a k : Nat) : Nat := a / 4294967296 ^ k % 4294967296
theorem dg_lt (a k : Nat) : dg a k < 4294967296 := Nat.mod_lt _ (by omega)
theorem dg_zero (a : Nat) : dg a 0 = a % 4294967296 := by simp [dg]
theorem dg_succ (a k : Nat) : dg a (k + 1) = dg (a / 4294967296) k := by
  unfold dg
  rw [Nat.pow_succ, Nat.mul_comm, ← Nat.div_div_eq_div_mul]
theorem pow_pos32 (k : Nat) : 0 < 4294967296 ^ k := Nat.pow_pos (by omega)
theorem dg_big {a k : Nat} (h : a < 4294967296 ^ k) : dg a k = 0 := by unfold dg; rw [Nat.div_eq_of_lt h]
theorem mod_succ32 (a k : Nat) : a % 4294967296 ^ (k + 1) = a % 4294967296 ^ k + dg a k * 4294967296 ^ k := by
  unfold dg
  rw [Nat.pow_succ, Nat.mod_mul, Nat.mul_comm (a / _ % _)]
theorem mod_full {a k : Nat} (h : a < 4294967296 ^ k) : a % 4294967296 ^ k = a := Nat.mod_eq_of_lt h

/-- The words of a number, without a nought at the end. -/
def W (n : Nat) : List Int := if n = 0 then [] else ((n % 4294967296 : Nat) : Int) :: W (n / 4294967296)
termination_by n
decreasing_by omega

theorem W_zero : W 0 = [] := by rw [W]; rfl
theorem W_pos {n : Nat} (h : n ≠ 0) : W n = ((n % 4294967296 : Nat) : Int) :: W (n / 4294967296) := by rw [W, if_neg h]
theorem W_ind {p : Nat → Prop} (h0 : p 0) (h : ∀ n, n ≠ 0 → p (n / 4294967296) → p n) (n : Nat) : p n := by
  induction n using Nat.strongRecOn with
  | ind n ih =>
    by_cases hn : n = 0
    · rw [hn]; exact h0
    · exact h n hn (ih _ (by omega))
theorem wv_W (n : Nat) : wv (W n) = n := by
  refine W_ind (p := fun n => wv (W n) = n) (by rw [W_zero]; rfl) (fun n hn ih => ?_) n
  rw [W_pos hn, wv, ih]; omega
theorem W_wd (n : Nat) : Wd (W n) := by
  refine W_ind (p := fun n => Wd (W n)) (by rw [W_zero]; exact wd_nil) (fun n hn ih => ?_) n
  rw [W_pos hn]
  exact wd_cons (by omega) (by omega) ih
theorem W_nil {n : Nat} : W n = [] ↔ n = 0 := by
  constructor
  · intro h
    have := wv_W n
    rw [h] at this; exact this.symm
  · rintro rfl; exact W_zero
theorem W_getD (n k : Nat) : (W n).getD k 0 = ((dg n k : Nat) : Int) := by
  refine W_ind (p := fun n => ∀ k, (W n).getD k 0 = ((dg n k : Nat) : Int)) (fun k => ?_) (fun n hn ih k => ?_) n k
  · rw [W_zero]; simp [dg]
  · rw [W_pos hn]
    cases k with
    | zero => rw [dg_zero]; rfl
    | succ k => rw [List.getD_cons_succ, ih, dg_succ]
theorem W_len_lt (n : Nat) : n < 4294967296 ^ (W n).length := by
  have := wv_lt (W_wd n)
  rwa [wv_W] at this
/-- The last word is none that is nought. -/
theorem W_len_ge {n : Nat} (h : n ≠ 0) : 4294967296 ^ ((W n).length - 1) ≤ n := by
  refine W_ind (p := fun n => n ≠ 0 → 4294967296 ^ ((W n).length - 1) ≤ n) (fun h => absurd rfl h) (fun n hn ih _ => ?_) n h
  rw [W_pos hn]
  by_cases hz : n / 4294967296 = 0
  · rw [hz, W_zero]; simp; omega
  · have h1 := ih hz
    have h2 : (W (n / 4294967296)).length ≠ 0 := by
      intro e; exact hz (W_nil.1 (List.eq_nil_of_length_eq_zero e))
    rw [List.length_cons, Nat.add_sub_cancel, show (W (n / 4294967296)).length = ((W (n / 4294967296)).length - 1) + 1 by omega, Nat.pow_succ]
    generalize 4294967296 ^ ((W (n / 4294967296)).length - 1) = P at *
    omega
theorem W_len_le {n k : Nat} (h : n < 4294967296 ^ k) : (W n).length ≤ k := by
  by_cases hn : n = 0
  · rw [hn, W_zero]; exact Nat.zero_le _
  · have := Nat.lt_of_le_of_lt (W_len_ge hn) h
    have := (Nat.pow_lt_pow_iff_right (a := 4294967296) (by omega)).1 this
    omega
theorem W_len_mono {m n : Nat} (h : m ≤ n) : (W m).length ≤ (W n).length := W_len_le (Nat.lt_of_le_of_lt h (W_len_lt n))
theorem W_len_log (n : Nat) : (W n).length ≤ n.log2 / 32 + 1 := by
  by_cases hn : n = 0
  · rw [hn, W_zero]; exact Nat.zero_le _
  · refine W_len_le (Nat.lt_of_lt_of_le Nat.lt_log2_self ?_)
    rw [show (4294967296 : Nat) = 2 ^ 32 from rfl, ← Nat.pow_mul]
    exact Nat.pow_le_pow_right (by omega) (by omega)

/-- Words without noughts at their end are the words of their value. -/
theorem W_of {l : List Int} (h : Wd l) (hl : l = [] ∨ l.getD (l.length - 1) 0 ≠ 0) : l = W (wv l) := by
  induction l with
  | nil => exact W_zero.symm
  | cons x l ih =>
    have hx := wd_head h
    have hl' := hl.resolve_left (by simp)
    have step : l = [] ∨ l.getD (l.length - 1) 0 ≠ 0 := by
      cases l with
      | nil => exact .inl rfl
      | cons y l => right; simpa using hl'
    have ih := ih (wd_tail h) step
    have hv : wv (x :: l) = x.toNat + 4294967296 * wv l := rfl
    have hne : wv (x :: l) ≠ 0 := by
      intro e
      rw [hv] at e
      have e1 : wv l = 0 := by omega
      rw [e1, W_zero] at ih
      subst ih
      have e2 : x = 0 := by omega
      exact hl' (by simpa using e2)
    rw [W_pos hne, hv, show (x.toNat + 4294967296 * wv l) % 4294967296 = x.toNat by omega, show (x.toNat + 4294967296 * wv l) / 4294967296 = wv l by omega, ← ih]
    congr 1; omega
/-- Noughts at the end are worth nothing. -/
theorem wv_take {l : List Int} {k : Nat} (h : ∀ j, k ≤ j → j < l.length → l.getD j 0 = 0) : wv (l.take k) = wv l := by
  induction l generalizing k with
  | nil => simp
  | cons x l ih =>
    cases k with
    | zero =>
      have h0 := h 0 (by omega) (by simp)
      have hr : wv l = 0 := by
        rw [← ih (k := 0) fun j hj hjl => by have := h (j + 1) (by omega) (by simpa using hjl); simpa using this]
        rfl
      have hx : x = 0 := by simpa using h0
      subst hx
      simp [wv, hr]
    | succ k =>
      rw [List.take_succ_cons]
      simp only [wv]
      rw [ih fun j hj hjl => by have := h (j + 1) (by omega) (by simpa using hjl); simpa using this]
/-- Words by their places. -/
theorem W_take {l : List Int} {k : Nat} (h : Wd l) (hk : k ≤ l.length) (h0 : ∀ j, k ≤ j → j < l.length → l.getD j 0 = 0) (h1 : k = 0 ∨ l.getD (k - 1) 0 ≠ 0) : l.take k = W (wv l) := by
  rw [← wv_take h0]
  refine W_of (wd_take h k) ?_
  rcases h1 with h1 | h1
  · subst h1; exact .inl rfl
  · by_cases hz : k = 0
    · subst hz; exact .inl rfl
    · right
      rw [List.length_take, Nat.min_eq_left hk, List.getD_eq_getElem?_getD, List.getElem?_take, if_pos (by omega), ← List.getD_eq_getElem?_getD]
      exact h1

theorem wv_dg {l : List Int} (h : Wd l) (k : Nat) : ((dg (wv l) k : Nat) : Int) = l.getD k 0 := by
  induction l generalizing k with
  | nil => simp [wv, dg]
  | cons x l ih =>
    have hx := wd_head h
    have hv : wv (x :: l) = x.toNat + 4294967296 * wv l := rfl
    cases k with
    | zero => rw [dg_zero, hv, List.getD_cons_zero]; omega
    | succ k =>
      rw [dg_succ, hv, show (x.toNat + 4294967296 * wv l) / 4294967296 = wv l by omega, ih (wd_tail h), List.getD_cons_succ]

/-- A list of which each word is known. -/
theorem wv_by {l : List Int} {R : Nat} (h : Wd l) (hR : R < 4294967296 ^ l.length) (hd : ∀ k, k < l.length → l.getD k 0 = ((dg R k : Nat) : Int)) : wv l = R := by
  induction l generalizing R with
  | nil => simp at hR; simp [wv, hR]
  | cons x l ih =>
    have hx := wd_head h
    have h0 := hd 0 (by simp)
    rw [dg_zero, List.getD_cons_zero] at h0
    have h1 := ih (R := R / 4294967296) (wd_tail h) (by
      rw [List.length_cons, Nat.pow_succ] at hR
      exact Nat.div_lt_of_lt_mul (by rw [Nat.mul_comm]; exact hR)) fun k hk => by
      have := hd (k + 1) (by simpa using hk)
      rwa [List.getD_cons_succ, dg_succ] at this
    simp only [wv, h1]
    omega

end Go.Eng
