/-
  Words of 32 bits: what the functions of package bignum come to: cutting off, sums, differences, products. No condition.
-/
import Derived.Test.YtmecjaojkegamaaDoorTpA
set_option linter.unusedVariables false
set_option linter.unusedSimpArgs false
set_option linter.unnecessarySimpa false
set_option linter.unusedSectionVars false
set_option maxRecDepth 100000
set_option maxHeartbeats 4000000
namespace Go.Eng
open Go

theorem w32 (n : Int) : IntKind.u32.wrap n = n % 4294967296 := by simp [IntKind.wrap, IntKind.bits, IntKind.signed]
theorem w64 (n : Int) : IntKind.u64.wrap n = n % 18446744073709551616 := by simp [IntKind.wrap, IntKind.bits, IntKind.signed]
theorem w32n (n : Nat) : IntKind.u32.wrap (n : Int) = ((n % 4294967296 : Nat) : Int) := by rw [w32]; omega
theorem w64n {n : Nat} (h : n < 18446744073709551616) : IntKind.u64.wrap (n : Int) = (n : Int) := by rw [w64]; omega
theorem fdn (n k : Nat) : ((n : Nat) : Int).fdiv (2 ^ k) = ((n / 2 ^ k : Nat) : Int) := by
  rw [Int.fdiv_eq_ediv_of_nonneg _ (by have := Int.pow_pos (n := (2 : Int)) (m := k) (by decide); omega)]
  simp
theorem sh32 : min (32 : Int).toNat IntKind.u64.bits = 32 := by decide
theorem sh63 : min (63 : Int).toNat IntKind.u64.bits = 63 := by decide

/-- A loop with an invariant. -/
theorem iter_inv {τ ω : Type} {b : τ → Option (τ ⊕ ω)} (I : Nat → τ → Prop) (n : Nat) (Q : ω → Prop) (hn : n < FU) (step : ∀ i s, i < n → I i s → ∃ s', b s = some (.inl s') ∧ I (i + 1) s') (stop : ∀ s, I n s → ∃ o, b s = some (.inr o) ∧ Q o) {s0 : τ} (h0 : I 0 s0) : ∃ o, iter b FU s0 = some o ∧ Q o := by
  have key : ∀ k i m s, i + k = n → k < m → I i s → ∃ o, iter b m s = some o ∧ Q o := by
    intro k
    induction k with
    | zero =>
      intro i m s hi hm hI
      obtain ⟨m, rfl⟩ : ∃ q, m = q + 1 := ⟨m - 1, by omega⟩
      obtain rfl : i = n := by omega
      obtain ⟨o, h1, h2⟩ := stop s hI
      exact ⟨o, by rw [iter_succ, h1], h2⟩
    | succ k ih =>
      intro i m s hi hm hI
      obtain ⟨m, rfl⟩ : ∃ q, m = q + 1 := ⟨m - 1, by omega⟩
      obtain ⟨s', h1, h2⟩ := step i s (by omega) hI
      obtain ⟨o, h3, h4⟩ := ih (i + 1) m s' (by omega) (by omega) h2
      exact ⟨o, by rw [iter_succ, h1]; exact h3, h4⟩
  exact key n 0 FU s0 (by omega) hn h0

/-! ### Noughts at the end -/

theorem trim_t {l : List Int} (hl : l.length ≤ 1099511627776) : ∃ n : Nat, n ≤ l.length ∧ T_bignum_trim l = some (n : Int) ∧ (∀ j, n ≤ j → j < l.length → l.getD j 0 = 0) ∧ (n = 0 ∨ l.getD (n - 1) 0 ≠ 0) := by
  have ex : ∃ n : Nat, n ≤ l.length ∧ (∀ j, n ≤ j → j < l.length → l.getD j 0 = 0) ∧ (n = 0 ∨ l.getD (n - 1) 0 ≠ 0) := by
    rcases first_mark (fun i => l.getD (l.length - 1 - i) 0 != 0) l.length with h | ⟨i, hi, h1, h2⟩
    · refine ⟨0, by omega, fun j _ hj => ?_, .inl rfl⟩
      have := h (l.length - 1 - j) (by omega)
      rw [show l.length - 1 - (l.length - 1 - j) = j by omega] at this
      simpa using this
    · refine ⟨l.length - i, by omega, fun j hj hjl => ?_, .inr ?_⟩
      · have := h2 (l.length - 1 - j) (by omega)
        rw [show l.length - 1 - (l.length - 1 - j) = j by omega] at this
        simpa using this
      · rw [show l.length - i - 1 = l.length - 1 - i by omega]
        simpa using h1
  obtain ⟨n, hn, h0, h1⟩ := ex
  refine ⟨n, hn, ?_, h0, h1⟩
  unfold T_bignum_trim
  have loop := iter_nat (b := T_bignum_trim_b2 l) (fun i => ((l.length - i : Nat) : Int)) (o := (n : Int)) (l.length - n) (by rw [FU_eq]; omega) (fun i hi => by
    unfold T_bignum_trim_b2
    dsimp only
    have e : IntKind.i64.wrap (((l.length - i : Nat) : Int) - 1) = ((l.length - (i + 1) : Nat) : Int) := by rw [wrI (by omega) (by omega)]; omega
    rw [cond_t (by simp; omega), e, at_getD 0 (by omega), Option.bind_some, h0 _ (by omega) (by omega)]
    rfl) (by
    unfold T_bignum_trim_b2
    dsimp only
    rw [show l.length - (l.length - n) = n by omega]
    rcases h1 with h1 | h1
    · subst h1; rfl
    · by_cases hz : n = 0
      · subst hz; rfl
      · have e : IntKind.i64.wrap (((n : Nat) : Int) - 1) = ((n - 1 : Nat) : Int) := by rw [wrI (by omega) (by omega)]; omega
        rw [cond_t (by simp; omega), e, at_getD 0 (by omega), Option.bind_some, cond_f (by simpa using h1)])
  rw [Option.bind_some]
  rw [Nat.sub_zero] at loop
  rw [loop, Option.bind_some, show (0 : Int) = ((0 : Nat) : Int) from rfl, sub_nat (by omega) hn]
  rfl

/-- Cut off: the words of the value. -/
theorem trim_sub {l : List Int} (h : Wd l) (hl : l.length ≤ 1099511627776) {β : Type} (f : List Int → Option β) : ((T_bignum_trim l).bind fun t => (subL l 0 t).bind f) = f (W (wv l)) := by
  obtain ⟨n, hn, ht, h0, h1⟩ := trim_t hl
  rw [ht, Option.bind_some, show (0 : Int) = ((0 : Nat) : Int) from rfl, sub_nat (by omega) hn, Option.bind_some]
  have := W_take h hn h0 h1
  rw [← this]
  simp

theorem words_t {x : Nat} (h : x < 18446744073709551616) : T_bignum_words (x : Int) = some (W x) := by
  unfold T_bignum_words
  rw [Option.bind_some, sh32, fdn, w32n, w32n]
  have hd : Wd [((x % 4294967296 : Nat) : Int), ((x / 2 ^ 32 % 4294967296 : Nat) : Int)] := wd_cons (by omega) (by omega) (wd_cons (by omega) (by omega) wd_nil)
  rw [trim_sub hd (by simp)]
  have : wv [((x % 4294967296 : Nat) : Int), ((x / 2 ^ 32 % 4294967296 : Nat) : Int)] = x := by
    simp only [wv]; omega
  rw [this]

theorem twin_t {l : List Int} (h : l.length ≤ 4294967296) : T_bignum_twin l = some l := by
  unfold T_bignum_twin
  rw [app_le (by simpa using h)]; rfl

/-! ### Lists filled with a number's words -/

def dl (m i V : Nat) : List Int := (List.range m).map fun k => if k < i then ((dg V k : Nat) : Int) else 0
theorem dl_len (m i V : Nat) : (dl m i V).length = m := by simp [dl]
theorem dl_at {m i V k : Nat} (h : k < m) : (dl m i V).getD k 0 = if k < i then ((dg V k : Nat) : Int) else 0 := by
  unfold dl; simp [List.getD_eq_getElem?_getD, h]
theorem dl_zero (m V : Nat) : dl m 0 V = List.replicate m 0 := by
  unfold dl
  rw [← const_range]
  exact List.map_congr_left fun k _ => by simp
theorem dl_set {m i V : Nat} : (dl m i V).set i ((dg V i : Nat) : Int) = dl m (i + 1) V := by
  refine ext_getD 0 (by simp [dl]) fun k hk => ?_
  have hkm : k < m := by simpa [dl] using hk
  by_cases e : k = i
  · subst e
    rw [List.getD_eq_getElem?_getD, List.getElem?_set_self (by rw [dl_len]; exact hkm), dl_at hkm, if_pos (by omega)]; rfl
  · rw [List.getD_eq_getElem?_getD, List.getElem?_set_ne (Ne.symm e), ← List.getD_eq_getElem?_getD, dl_at hkm, dl_at hkm]
    by_cases h : k < i
    · rw [if_pos h, if_pos (by omega)]
    · rw [if_neg h, if_neg (by omega)]
theorem dl_wd (m i V : Nat) : Wd (dl m i V) := by
  intro x hx
  obtain ⟨k, _, rfl⟩ := List.mem_map.1 hx
  have := dg_lt V k
  split <;> omega
theorem dl_wv {m V : Nat} (h : V < 4294967296 ^ m) : wv (dl m m V) = V := wv_by (dl_wd m m V) (by rw [dl_len]; exact h) fun k hk => by
  rw [dl_len] at hk
  rw [dl_at hk, if_pos hk]

theorem at_dg {l : List Int} (h : Wd l) {k : Nat} (hk : k < l.length) : atI l (k : Int) = some ((dg (wv l) k : Nat) : Int) := by
  rw [at_getD 0 hk, wv_dg h]

/-! ### Sums -/

def cyA (X Y i : Nat) : Nat := (X % 4294967296 ^ i + Y % 4294967296 ^ i) / 4294967296 ^ i
theorem cyA_le (X Y i : Nat) : cyA X Y i ≤ 1 := by
  unfold cyA
  have hp := pow_pos32 i
  have h1 := Nat.mod_lt X hp
  have h2 := Nat.mod_lt Y hp
  have : (X % 4294967296 ^ i + Y % 4294967296 ^ i) / 4294967296 ^ i < 2 := (Nat.div_lt_iff_lt_mul hp).2 (by omega)
  omega
theorem cyA_succ (X Y i : Nat) : (cyA X Y i + dg X i + dg Y i) / 4294967296 = cyA X Y (i + 1) := by
  unfold cyA
  rw [mod_succ32, mod_succ32, Nat.pow_succ, ← Nat.div_div_eq_div_mul]
  congr 1
  rw [show X % 4294967296 ^ i + dg X i * 4294967296 ^ i + (Y % 4294967296 ^ i + dg Y i * 4294967296 ^ i) = (X % 4294967296 ^ i + Y % 4294967296 ^ i) + (dg X i + dg Y i) * 4294967296 ^ i by rw [Nat.add_mul]; omega, Nat.add_mul_div_right _ _ (pow_pos32 i)]
  omega
theorem div_add32 (X Y i : Nat) : (X + Y) / 4294967296 ^ i = X / 4294967296 ^ i + Y / 4294967296 ^ i + cyA X Y i := by
  unfold cyA
  have hp := pow_pos32 i
  have h1 := Nat.div_add_mod X (4294967296 ^ i)
  have h2 := Nat.div_add_mod Y (4294967296 ^ i)
  conv => lhs; rw [← h1, ← h2]
  rw [show 4294967296 ^ i * (X / 4294967296 ^ i) + X % 4294967296 ^ i + (4294967296 ^ i * (Y / 4294967296 ^ i) + Y % 4294967296 ^ i) = (X % 4294967296 ^ i + Y % 4294967296 ^ i) + (X / 4294967296 ^ i + Y / 4294967296 ^ i) * 4294967296 ^ i by rw [Nat.add_mul, Nat.mul_comm (4294967296 ^ i), Nat.mul_comm (4294967296 ^ i)]; omega, Nat.add_mul_div_right _ _ hp]
  omega
theorem dg_add (X Y i : Nat) : dg (X + Y) i = (cyA X Y i + dg X i + dg Y i) % 4294967296 := by
  unfold dg
  rw [div_add32]; omega

theorem add_loop {x y : List Int} (hx : Wd x) (hy : Wd y) (hl : y.length ≤ x.length) (hb : x.length ≤ 4294967296) :
    iter (T_bignum_add_b2 x y) FU (0, 0, List.replicate (x.length + 1) 0) = some ((((cyA (wv x) (wv y) x.length : Nat) : Int)), dl (x.length + 1) x.length (wv x + wv y)) := by
  have := iter_nat (b := T_bignum_add_b2 x y) (fun i => (((cyA (wv x) (wv y) i : Nat) : Int), ((i : Nat) : Int), dl (x.length + 1) i (wv x + wv y))) (o := (((cyA (wv x) (wv y) x.length : Nat) : Int), dl (x.length + 1) x.length (wv x + wv y))) x.length (by rw [FU_eq]; omega) (fun i hi => by
    unfold T_bignum_add_b2
    simp only [Option.bind_some]
    have h1 := dg_lt (wv x) i
    have h2 := dg_lt (wv y) i
    have h3 := cyA_le (wv x) (wv y) i
    have e : (cond (decide (((i : Nat) : Int) < ((y.length : Nat) : Int))) ((atI y (i : Int)).bind fun t16 => some (IntKind.u64.wrap (IntKind.u64.wrap (((cyA (wv x) (wv y) i : Nat) : Int) + IntKind.u64.wrap ((dg (wv x) i : Nat) : Int)) + IntKind.u64.wrap t16))) (some (IntKind.u64.wrap (((cyA (wv x) (wv y) i : Nat) : Int) + IntKind.u64.wrap ((dg (wv x) i : Nat) : Int))))) = some (((cyA (wv x) (wv y) i + dg (wv x) i + dg (wv y) i : Nat) : Int)) := by
      rw [w64n (n := dg (wv x) i) (by omega), ← Int.natCast_add, w64n (n := cyA (wv x) (wv y) i + dg (wv x) i) (by omega)]
      by_cases hiy : i < y.length
      · rw [cond_t (by simpa using hiy), at_dg hy hiy, Option.bind_some, w64n (n := dg (wv y) i) (by omega), ← Int.natCast_add, w64n (by omega)]
      · rw [cond_f (by simpa using hiy), show dg (wv y) i = 0 from dg_big (Nat.lt_of_lt_of_le (wv_lt hy) (Nat.pow_le_pow_right (by omega) (by omega)))]
        simp
    rw [cond_t (by simp; omega), at_dg hx hi, Option.bind_some, e, Option.bind_some, at_getD 0 (by rw [dl_len]; omega)]
    simp only [Option.bind_some, Int.toNat_natCast]
    rw [w32n, ← dg_add, dl_set, sh32, fdn, show (2 : Nat) ^ 32 = 4294967296 from rfl, cyA_succ, wrU (by omega)]) (by
    unfold T_bignum_add_b2
    simp only [Option.bind_some]
    rw [cond_f (by simp)])
  rw [dl_zero, show ((cyA (wv x) (wv y) 0 : Nat) : Int) = 0 by unfold cyA; simp [Nat.mod_one]] at this
  exact this

theorem add_core {x y : List Int} (hx : Wd x) (hy : Wd y) (hl : y.length ≤ x.length) (hb : x.length ≤ 4294967296) :
    ((iter (T_bignum_add_b2 x y) FU (0, 0, List.replicate (x.length + 1) 0)).bind fun o => match o with
      | (t7, t8) => (some ((x.length : Nat) : Int)).bind fun t19 => (atI t8 t19).bind fun _ => (some (t8.set (t19).toNat (IntKind.u32.wrap t7))).bind fun t21 => (T_bignum_trim t21).bind fun t23 => (subL t21 0 t23).bind fun t24 => some t24) = some (W (wv x + wv y)) := by
  rw [add_loop hx hy hl hb, Option.bind_some]
  dsimp only
  have lx := wv_lt hx
  have ly := Nat.lt_of_lt_of_le (wv_lt hy) (Nat.pow_le_pow_right (n := 4294967296) (by omega) hl)
  have e : cyA (wv x) (wv y) x.length % 4294967296 = dg (wv x + wv y) x.length := by
    rw [dg_add, dg_big lx, dg_big ly]; simp
  rw [Option.bind_some, at_getD 0 (by rw [dl_len]; omega)]
  simp only [Option.bind_some, Int.toNat_natCast]
  rw [w32n, e, dl_set, trim_sub (dl_wd _ _ _) (by rw [dl_len]; omega), dl_wv]
  rw [Nat.pow_succ]; omega

theorem add_t {a b : Nat} (ha : (W a).length ≤ 4294967296) (hb : (W b).length ≤ 4294967296) : T_bignum_add (W a) (W b) = some (W (a + b)) := by
  unfold T_bignum_add
  rw [Option.bind_some, Option.bind_some]
  rcases Nat.lt_or_ge (W a).length (W b).length with h | h
  · rw [cond_t (by simpa using h), Option.bind_some]
    dsimp only
    rw [Option.bind_some, wrU (by omega), mk_nat (by omega), Option.bind_some, add_core (W_wd b) (W_wd a) (by omega) hb, wv_W, wv_W, Nat.add_comm]
  · rw [cond_f (by simpa using h), Option.bind_some]
    dsimp only
    rw [Option.bind_some, wrU (by omega), mk_nat (by omega), Option.bind_some, add_core (W_wd a) (W_wd b) (by omega) ha, wv_W, wv_W]

/-! ### Differences -/

def boA (X Y i : Nat) : Nat := if X % 4294967296 ^ i < Y % 4294967296 ^ i then 1 else 0
theorem boA_le (X Y i : Nat) : boA X Y i ≤ 1 := by unfold boA; split <;> omega
theorem boA_succ (X Y i : Nat) : boA X Y (i + 1) = if dg X i < dg Y i + boA X Y i then 1 else 0 := by
  unfold boA
  rw [mod_succ32, mod_succ32]
  have hp := pow_pos32 i
  have h1 := Nat.mod_lt X hp
  have h2 := Nat.mod_lt Y hp
  generalize X % 4294967296 ^ i = p at *
  generalize Y % 4294967296 ^ i = q at *
  generalize dg X i = x
  generalize dg Y i = y
  generalize 4294967296 ^ i = P at *
  rcases Nat.lt_trichotomy x y with h | h | h
  · have : (x + 1) * P ≤ y * P := Nat.mul_le_mul_right _ h
    rw [Nat.add_mul] at this
    rw [if_pos (by omega)]
    split <;> rw [if_pos (by omega)]
  · subst h
    by_cases hpq : p < q
    · rw [if_pos (by omega), if_pos hpq, if_pos (by omega)]
    · rw [if_neg (by omega), if_neg hpq, if_neg (by omega)]
  · have : (y + 1) * P ≤ x * P := Nat.mul_le_mul_right _ h
    rw [Nat.add_mul] at this
    rw [if_neg (by omega)]
    split <;> rw [if_neg (by omega)]
theorem div_sub32 {X Y : Nat} (h : Y ≤ X) (i : Nat) : (X - Y) / 4294967296 ^ i + Y / 4294967296 ^ i + boA X Y i = X / 4294967296 ^ i := by
  have hp := pow_pos32 i
  have h1 := Nat.div_add_mod X (4294967296 ^ i)
  have h2 := Nat.div_add_mod Y (4294967296 ^ i)
  have l1 := Nat.mod_lt X hp
  have l2 := Nat.mod_lt Y hp
  unfold boA
  generalize X % 4294967296 ^ i = p at *
  generalize Y % 4294967296 ^ i = q at *
  generalize hx : X / 4294967296 ^ i = x at *
  generalize hy : Y / 4294967296 ^ i = y at *
  generalize 4294967296 ^ i = P at *
  have hyx : y ≤ x := by rw [← hx, ← hy]; exact Nat.div_le_div_right h
  split
  · rename_i hpq
    have hlt : y < x := by
      rcases Nat.lt_or_ge y x with k | k
      · exact k
      · have : x = y := by omega
        subst this; omega
    have e : X - Y = (x - y - 1) * P + (P + p - q) := by
      have : x * P = (x - y - 1) * P + y * P + P := by
        rw [← Nat.add_mul, ← Nat.succ_mul]; congr 1; omega
      rw [Nat.mul_comm] at h1 h2
      omega
    have : (X - Y) / P = x - y - 1 := by
      rw [e, Nat.mul_comm, Nat.mul_add_div hp, Nat.div_eq_of_lt (by omega)]; omega
    omega
  · rename_i hpq
    have e : X - Y = (x - y) * P + (p - q) := by
      have : x * P = (x - y) * P + y * P := by rw [← Nat.add_mul]; congr 1; omega
      rw [Nat.mul_comm] at h1 h2
      omega
    have : (X - Y) / P = x - y := by
      rw [e, Nat.mul_comm, Nat.mul_add_div hp, Nat.div_eq_of_lt (by omega)]; omega
    omega
theorem dg_sub {X Y : Nat} (h : Y ≤ X) (i : Nat) : ((dg (X - Y) i : Nat) : Int) = (((dg X i : Nat) : Int) - boA X Y i - dg Y i) % 4294967296 := by
  have := div_sub32 h i
  unfold dg
  omega

theorem sub_loop {x y : List Int} (hx : Wd x) (hy : Wd y) (hl : wv y ≤ wv x) (hb : x.length ≤ 4294967296) :
    iter (T_bignum_sub_b2 x y) FU (0, 0, List.replicate x.length 0) = some (dl x.length x.length (wv x - wv y)) := by
  have := iter_nat (b := T_bignum_sub_b2 x y) (fun i => (((boA (wv x) (wv y) i : Nat) : Int), ((i : Nat) : Int), dl x.length i (wv x - wv y))) (o := dl x.length x.length (wv x - wv y)) x.length (by rw [FU_eq]; omega) (fun i hi => by
    unfold T_bignum_sub_b2
    simp only [Option.bind_some]
    have h1 := dg_lt (wv x) i
    have h2 := dg_lt (wv y) i
    have h3 := boA_le (wv x) (wv y) i
    have e : (cond (decide (((i : Nat) : Int) < ((y.length : Nat) : Int))) ((atI y (i : Int)).bind fun t11 => some (IntKind.u64.wrap (IntKind.u64.wrap (IntKind.u64.wrap ((dg (wv x) i : Nat) : Int) - ((boA (wv x) (wv y) i : Nat) : Int)) - IntKind.u64.wrap t11))) (some (IntKind.u64.wrap (IntKind.u64.wrap ((dg (wv x) i : Nat) : Int) - ((boA (wv x) (wv y) i : Nat) : Int))))) = some ((((dg (wv x) i : Nat) : Int) - boA (wv x) (wv y) i - dg (wv y) i) % 18446744073709551616) := by
      rw [w64n (n := dg (wv x) i) (by omega)]
      by_cases hiy : i < y.length
      · rw [cond_t (by simpa using hiy), at_dg hy hiy, Option.bind_some, w64n (n := dg (wv y) i) (by omega), w64, w64]
        congr 1; omega
      · rw [cond_f (by simpa using hiy), show dg (wv y) i = 0 from dg_big (Nat.lt_of_lt_of_le (wv_lt hy) (Nat.pow_le_pow_right (by omega) (by omega))), w64]
        congr 1; omega
    have e2 : ((((dg (wv x) i : Nat) : Int) - boA (wv x) (wv y) i - dg (wv y) i) % 18446744073709551616).fdiv (2 ^ 63) = ((boA (wv x) (wv y) (i + 1) : Nat) : Int) := by
      rw [boA_succ, Int.fdiv_eq_ediv_of_nonneg _ (by decide)]
      split <;> omega
    rw [cond_t (by simp; omega), at_dg hx hi, Option.bind_some, e, Option.bind_some, at_getD 0 (by rw [dl_len]; omega)]
    simp only [Option.bind_some, Int.toNat_natCast]
    have e3 : ((((dg (wv x) i : Nat) : Int) - boA (wv x) (wv y) i - dg (wv y) i) % 18446744073709551616) % 4294967296 = ((dg (wv x - wv y) i : Nat) : Int) := by
      rw [dg_sub hl]; omega
    rw [w32, e3, dl_set, sh63, e2, wrU (by omega)]) (by
    unfold T_bignum_sub_b2
    simp only [Option.bind_some]
    rw [cond_f (by simp)])
  rw [dl_zero, show ((boA (wv x) (wv y) 0 : Nat) : Int) = 0 by unfold boA; simp [Nat.mod_one]] at this
  exact this
theorem sub_t {a b : Nat} (h : b ≤ a) (ha : (W a).length ≤ 4294967296) : T_bignum_sub (W a) (W b) = some (W (a - b)) := by
  unfold T_bignum_sub
  have loop := sub_loop (W_wd a) (W_wd b) (by rw [wv_W, wv_W]; exact h) ha
  rw [wv_W, wv_W] at loop
  rw [Option.bind_some, mk_nat (by omega), Option.bind_some, loop, Option.bind_some, trim_sub (dl_wd _ _ _) (by rw [dl_len]; omega), dl_wv]
  exact Nat.lt_of_le_of_lt (Nat.sub_le a b) (W_len_lt a)

/-! ### Products -/

/-- One row. -/
theorem mul_row {x y r : List Int} {i V : Nat} (hx : Wd x) (hy : Wd y) (hi : i < x.length) (hr : Wd r) (hl : r.length = x.length + y.length) (hb : x.length + y.length ≤ 8589934592) (hV : wv r = V) (h0 : ∀ k, i + y.length ≤ k → r.getD k 0 = 0) :
    ∃ o, ((iter (T_bignum_mul_b9 y x (i : Int)) FU (0, 0, r)).bind fun o => match o with
      | (t11, t12) => (some ((y.length : Nat) : Int)).bind fun t22 => (atI t12 (IntKind.i64.wrap ((i : Int) + t22))).bind fun _ => (some (t12.set ((IntKind.i64.wrap ((i : Int) + t22))).toNat (IntKind.u32.wrap t11))).bind fun t24 => some (Sum.inl (α := Int × List Int) (β := List Int) ((IntKind.i64.wrap ((i : Int) + 1)), t24))) = some (.inl (((i + 1 : Nat) : Int), o)) ∧
      Wd o ∧ o.length = x.length + y.length ∧ wv o = V + dg (wv x) i * wv y * 4294967296 ^ i ∧ ∀ k, i + 1 + y.length ≤ k → o.getD k 0 = 0 := by
  have hxi := dg_lt (wv x) i
  obtain ⟨o, ho, c, r1, rfl, hc, hr1, hl1, hv1, hz1⟩ := iter_inv (b := T_bignum_mul_b9 y x (i : Int)) (fun j s => ∃ (c : Nat) (r1 : List Int), s = ((c : Int), (j : Int), r1) ∧ c < 4294967296 ∧ Wd r1 ∧ r1.length = x.length + y.length ∧ wv r1 + c * 4294967296 ^ (i + j) = V + dg (wv x) i * (wv y % 4294967296 ^ j) * 4294967296 ^ i ∧ ∀ k, i + y.length ≤ k → r1.getD k 0 = 0) y.length (fun o => ∃ (c : Nat) (r1 : List Int), o = ((c : Int), r1) ∧ c < 4294967296 ∧ Wd r1 ∧ r1.length = x.length + y.length ∧ wv r1 + c * 4294967296 ^ (i + y.length) = V + dg (wv x) i * wv y * 4294967296 ^ i ∧ ∀ k, i + y.length ≤ k → r1.getD k 0 = 0) (by rw [FU_eq]; omega) (fun j s hj => by
    rintro ⟨c, r1, rfl, hc, hr1, hl1, hv1, hz1⟩
    unfold T_bignum_mul_b9
    simp only [Option.bind_some]
    have hij : i + j < r1.length := by omega
    have hyj := dg_lt (wv y) j
    have hrij := wd_get hr1 (i + j)
    generalize hg : (r1.getD (i + j) 0).toNat = g
    have hg' : r1.getD (i + j) 0 = (g : Int) := by omega
    have hg2 : g < 4294967296 := by omega
    have hprod : dg (wv x) i * dg (wv y) j ≤ 4294967295 * 4294967295 := Nat.mul_le_mul (by omega) (by omega)
    rw [cond_t (by simp; omega), at_dg hx hi, Option.bind_some, at_dg hy hj, Option.bind_some, wrAdd (by omega), at_getD 0 hij]
    simp only [Option.bind_some, Int.toNat_natCast]
    rw [hg', w64n (n := dg (wv x) i) (by omega), w64n (n := dg (wv y) j) (by omega), ← Int.natCast_mul, w64n (n := dg (wv x) i * dg (wv y) j) (by omega), w64n (n := g) (by omega), ← Int.natCast_add, w64n (n := dg (wv x) i * dg (wv y) j + g) (by omega), ← Int.natCast_add, w64n (n := c + (dg (wv x) i * dg (wv y) j + g)) (by omega), w32n, sh32, fdn, wrU (by omega)]
    refine ⟨_, rfl, (c + (dg (wv x) i * dg (wv y) j + g)) / 2 ^ 32, _, rfl, by omega, wd_set hr1 (by omega) (by omega), by rw [List.length_set]; exact hl1, ?_, fun k hk => ?_⟩
    · have hs := wv_set (l := r1) (((c + (dg (wv x) i * dg (wv y) j + g)) % 4294967296 : Nat) : Int) hij
      rw [hg, Int.toNat_natCast] at hs
      rw [show (2 : Nat) ^ 32 = 4294967296 from rfl, show i + (j + 1) = i + j + 1 by omega, Nat.pow_succ, mod_succ32]
      have hdm := Nat.div_add_mod (c + (dg (wv x) i * dg (wv y) j + g)) 4294967296
      generalize hS : c + (dg (wv x) i * dg (wv y) j + g) = S at *
      have e1 : wv (r1.set (i + j) ((S % 4294967296 : Nat) : Int)) + g * 4294967296 ^ (i + j) = wv r1 + S % 4294967296 * 4294967296 ^ (i + j) := hs
      have e2 : S / 4294967296 * (4294967296 ^ (i + j) * 4294967296) + S % 4294967296 * 4294967296 ^ (i + j) = S * 4294967296 ^ (i + j) := by
        conv => rhs; rw [← hdm]
        rw [Nat.add_mul]
        congr 1
        ac_rfl
      have e3 : S * 4294967296 ^ (i + j) = c * 4294967296 ^ (i + j) + dg (wv x) i * dg (wv y) j * 4294967296 ^ (i + j) + g * 4294967296 ^ (i + j) := by
        rw [← hS, Nat.add_mul, Nat.add_mul]; omega
      have e4 : dg (wv x) i * (wv y % 4294967296 ^ j + dg (wv y) j * 4294967296 ^ j) * 4294967296 ^ i = dg (wv x) i * (wv y % 4294967296 ^ j) * 4294967296 ^ i + dg (wv x) i * dg (wv y) j * 4294967296 ^ (i + j) := by
        rw [Nat.mul_add, Nat.add_mul, Nat.pow_add]
        congr 1
        ac_rfl
      rw [e4]
      omega
    · rw [List.getD_eq_getElem?_getD, List.getElem?_set_ne (by omega), ← List.getD_eq_getElem?_getD]
      exact hz1 k hk) (fun s => by
    rintro ⟨c, r1, rfl, hc, hr1, hl1, hv1, hz1⟩
    unfold T_bignum_mul_b9
    simp only [Option.bind_some]
    rw [cond_f (by simp)]
    refine ⟨_, rfl, c, r1, rfl, hc, hr1, hl1, ?_, hz1⟩
    rw [hv1, mod_full (wv_lt hy)]) ⟨0, r, rfl, by omega, hr, hl, by rw [hV, Nat.pow_zero, Nat.mod_one]; simp, h0⟩
  have ho : iter (T_bignum_mul_b9 y x (i : Int)) FU (0, 0, r) = some ((c : Int), r1) := ho
  rw [ho, Option.bind_some]
  dsimp only
  have hin : i + y.length < r1.length := by omega
  rw [Option.bind_some, wrAdd (by omega), at_getD 0 hin]
  simp only [Option.bind_some, Int.toNat_natCast]
  rw [w32n, Nat.mod_eq_of_lt hc, wrU (by omega)]
  refine ⟨_, rfl, wd_set hr1 (by omega) (by omega), by rw [List.length_set]; exact hl1, ?_, fun k hk => ?_⟩
  · have hs := wv_set (l := r1) ((c : Nat) : Int) hin
    rw [hz1 _ (Nat.le_refl _), Int.toNat_natCast] at hs
    simp only [Int.toNat_zero, Nat.zero_mul, Nat.add_zero] at hs
    rw [hs, hv1]
  · rw [List.getD_eq_getElem?_getD, List.getElem?_set_ne (by omega), ← List.getD_eq_getElem?_getD]
    exact hz1 k (by omega)

theorem mul_t {a b : Nat} (h : (W a).length + (W b).length ≤ 8589934592) : T_bignum_mul (W a) (W b) = some (W (a * b)) := by
  unfold T_bignum_mul
  have emp : ∀ n : Nat, ((((W n).length : Nat) : Int) == 0) = decide (n = 0) := fun n => by
    by_cases hn : n = 0
    · subst hn; rw [W_zero]; rfl
    · have : (W n).length ≠ 0 := fun e => hn (W_nil.1 (List.eq_nil_of_length_eq_zero e))
      rw [decide_eq_false hn, beq_eq_false_iff_ne]; omega
  simp only [Option.bind_some, emp]
  by_cases ha : a = 0
  · subst ha
    rw [decide_eq_true rfl]
    simp [W_zero]
  · rw [decide_eq_false ha]
    by_cases hb : b = 0
    · subst hb
      simp [W_zero]
    · rw [decide_eq_false hb]
      simp only [Bool.not_false, cT, Option.bind_some, cF]
      rw [wrAdd (by omega), mk_nat (by omega), Option.bind_some]
      obtain ⟨o, ho, hw, hl, hv⟩ := iter_inv (b := T_bignum_mul_b7 (W a) (W b)) (fun i s => ∃ r, s = ((i : Int), r) ∧ Wd r ∧ r.length = (W a).length + (W b).length ∧ wv r = (a % 4294967296 ^ i) * b ∧ ∀ k, i + (W b).length ≤ k → r.getD k 0 = 0) (W a).length (fun o => Wd o ∧ o.length = (W a).length + (W b).length ∧ wv o = a * b) (by rw [FU_eq]; omega) (fun i s hi => by
        rintro ⟨r, rfl, hr, hl, hv, hz⟩
        obtain ⟨o, h1, h2, h3, h4, h5⟩ := mul_row (W_wd a) (W_wd b) hi hr hl (by omega) hv hz
        rw [wv_W, wv_W] at h4
        refine ⟨(((i + 1 : Nat) : Int), o), ?_, o, rfl, h2, h3, ?_, h5⟩
        · unfold T_bignum_mul_b7
          simp only [Option.bind_some]
          rw [cond_t (by simp; omega)]
          simp only [Option.bind_some] at h1
          exact h1
        · rw [h4, mod_succ32, Nat.add_mul]
          congr 1
          ac_rfl) (fun s => by
        rintro ⟨r, rfl, hr, hl, hv, hz⟩
        unfold T_bignum_mul_b7
        simp only [Option.bind_some]
        rw [cond_f (by simp)]
        exact ⟨r, rfl, hr, hl, by rw [hv, mod_full (W_len_lt a)]⟩) (s0 := (0, List.replicate ((W a).length + (W b).length) 0)) ⟨_, rfl, wd_rep _, by simp, by rw [wv_rep, Nat.pow_zero, Nat.mod_one, Nat.zero_mul], fun k _ => by
          rw [List.getD_eq_getElem?_getD]
          rcases Nat.lt_or_ge k ((W a).length + (W b).length) with hk | hk
          · simp [hk]
          · rw [List.getElem?_eq_none (by simpa using hk)]; rfl⟩
      rw [ho, Option.bind_some, trim_sub hw (by omega), hv]

end Go.Eng
