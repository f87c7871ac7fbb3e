/-
  Natural numbers of any length, as the document reckons with them (limbs, digits of 32 bits): noughts cut off, halves, limbs, over one digit, over a power of two; the right dyad of any dyad. No condition.
-/
import Derived.Test.YtmecjaojkegamaaDoorDy2
set_option linter.unusedVariables false
set_option linter.unusedSimpArgs false
set_option linter.unnecessarySimpa false
set_option linter.unusedSectionVars false
set_option maxRecDepth 100000
set_option maxHeartbeats 400000
set_option exponentiation.threshold 70000
namespace Go.Eng
open Go

theorem lv_append (l m : List Int) : lv (l ++ m) = lv l + 18446744073709551616 ^ l.length * lv m := by
  induction l with
  | nil => simp [lv]
  | cons x l ih =>
    have e : ∀ (x : Int) (l : List Int), lv (x :: l) = x.toNat + 18446744073709551616 * lv l := fun _ _ => rfl
    rw [List.cons_append, e, e, ih, List.length_cons, Nat.pow_succ, Nat.mul_add, ← Nat.mul_assoc, Nat.mul_comm 18446744073709551616 (_ ^ _)]
    omega
theorem lv_noughts {l : List Int} (h : ∀ j, j < l.length → l.getD j 0 = 0) : lv l = 0 := by
  induction l with
  | nil => rfl
  | cons x l ih =>
    have h0 := h 0 (by simp)
    have h0 : x = 0 := by simpa using h0
    have := ih fun j hj => by
      have := h (j + 1) (by simpa using hj)
      simpa using this
    unfold lv
    rw [this, h0]; rfl
theorem Ld.take {l : List Int} (h : Ld l) (n : Nat) : Ld (l.take n) := fun y hy => h y (List.mem_of_mem_take hy)
theorem LW_take {l : List Int} {k : Nat} (h : Ld l) (hk : k ≤ l.length) (h0 : ∀ j, k ≤ j → j < l.length → l.getD j 0 = 0) (h1 : k = 0 ∨ l.getD (k - 1) 0 ≠ 0) : l.take k = LW (lv l) := by
  have e : lv l = lv (l.take k) := by
    conv => lhs; rw [← List.take_append_drop k l]
    rw [lv_append, lv_noughts (l := l.drop k) fun j hj => by
      have hj : j < l.length - k := by simpa using hj
      have := h0 (k + j) (by omega) (by omega)
      simpa [List.getD_eq_getElem?_getD] using this]
    simp
  rw [e]
  refine LW_of (h.take k) ?_
  rcases h1 with h1 | h1
  · left; subst h1; rfl
  · by_cases hz : k = 0
    · left; subst hz; rfl
    · right
      rw [List.length_take, Nat.min_eq_left hk]
      rw [List.getD_eq_getElem?_getD, List.getElem?_take_of_lt (by omega), ← List.getD_eq_getElem?_getD]
      exact h1

/-! ### Noughts cut off -/

theorem trim_loop {l : List Int} (hl : l.length ≤ 1099511627776) : ∃ n : Nat, n ≤ l.length ∧ iter (T_girderref02_NatTrim_b2 l) FU ((l.length : Nat) : Int) = some (n : Int) ∧ (∀ j, n ≤ j → j < l.length → l.getD j 0 = 0) ∧ (n = 0 ∨ l.getD (n - 1) 0 ≠ 0) := by
  have ex : ∃ n : Nat, n ≤ l.length ∧ (∀ j, n ≤ j → j < l.length → l.getD j 0 = 0) ∧ (n = 0 ∨ l.getD (n - 1) 0 ≠ 0) := by
    rcases first_mark (fun i => l.getD (l.length - 1 - i) 0 != 0) l.length with h | ⟨i, hi, h1, h2⟩
    · refine ⟨0, by omega, fun j _ hj => ?_, .inl rfl⟩
      have := h (l.length - 1 - j) (by omega)
      rw [show l.length - 1 - (l.length - 1 - j) = j by omega] at this
      simpa using this
    · refine ⟨l.length - i, by omega, fun j hj hjl => ?_, .inr ?_⟩
      · have := h2 (l.length - 1 - j) (by omega)
        rw [show l.length - 1 - (l.length - 1 - j) = j by omega] at this
        simpa using this
      · rw [show l.length - i - 1 = l.length - 1 - i by omega]
        simpa using h1
  obtain ⟨n, hn, h0, h1⟩ := ex
  refine ⟨n, hn, ?_, h0, h1⟩
  have loop := iter_nat (b := T_girderref02_NatTrim_b2 l) (fun i => ((l.length - i : Nat) : Int)) (o := (n : Int)) (l.length - n) (by rw [FU_eq]; omega) (fun i hi => by
    unfold T_girderref02_NatTrim_b2
    dsimp only
    have e : IntKind.i64.wrap (((l.length - i : Nat) : Int) - 1) = ((l.length - (i + 1) : Nat) : Int) := by rw [wrI (by omega) (by omega)]; omega
    rw [cond_t (by simp; omega), e, at_getD 0 (by omega), Option.bind_some, h0 _ (by omega) (by omega)]
    rfl) (by
    unfold T_girderref02_NatTrim_b2
    dsimp only
    rw [show l.length - (l.length - n) = n by omega]
    rcases h1 with h1 | h1
    · subst h1; rfl
    · by_cases hz : n = 0
      · subst hz; rfl
      · have e : IntKind.i64.wrap (((n : Nat) : Int) - 1) = ((n - 1 : Nat) : Int) := by rw [wrI (by omega) (by omega)]; omega
        rw [cond_t (by simp; omega), e, at_getD 0 (by omega), Option.bind_some, cond_f (by simpa using h1)])
  rw [Nat.sub_zero] at loop
  exact loop

theorem natTrim_t {l : List Int} (h : Ld l) (hl : l.length ≤ 4294967296) : T_girderref02_NatTrim l = some (LW (lv l)) := by
  obtain ⟨n, hn, ht, h0, h1⟩ := trim_loop (l := l) (by omega)
  unfold T_girderref02_NatTrim
  rw [Option.bind_some, ht, Option.bind_some, show (0 : Int) = ((0 : Nat) : Int) from rfl, sub_nat (by omega) hn, Option.bind_some]
  have := LW_take h hn h0 h1
  rw [List.drop_zero, Nat.sub_zero, this, app_le, Option.bind_some, List.nil_append]
  rw [← this, List.length_take, List.length_nil]; omega

theorem low_b (l : List Int) : T_girderref02_low_b2 l = T_girderref02_NatTrim_b2 l := rfl
theorem low_sub {l : List Int} (h : Wd l) (hl : l.length ≤ 1099511627776) {β : Type} (f : List Int → Option β) : ((T_girderref02_low l).bind fun t => (subL l 0 t).bind f) = f (W (wv l)) := by
  obtain ⟨n, hn, ht, h0, h1⟩ := trim_loop (l := l) hl
  unfold T_girderref02_low
  rw [Option.bind_some, low_b, ht, Option.bind_some, show (0 : Int) = ((0 : Nat) : Int) from rfl, sub_nat (by omega) hn, Option.bind_some, Option.bind_some, sub_nat (by omega) hn, Option.bind_some]
  have := W_take h hn h0 h1
  rw [← this]
  simp

/-! ### Halves and limbs -/

def hvs : List Int → List Int
  | [] => []
  | x :: l => (x % 4294967296) :: (x / 4294967296) :: hvs l
theorem hvs_append (l m : List Int) : hvs (l ++ m) = hvs l ++ hvs m := by
  induction l with
  | nil => rfl
  | cons x l ih => simp [hvs, ih]
theorem hvs_len (l : List Int) : (hvs l).length = 2 * l.length := by
  induction l with
  | nil => rfl
  | cons x l ih => simp [hvs, ih]; omega
theorem hvs_wd {l : List Int} (h : Ld l) : Wd (hvs l) := by
  induction l with
  | nil => exact wd_nil
  | cons x l ih =>
    have hx := h x (List.mem_cons_self ..)
    exact wd_cons (by omega) (by omega) (wd_cons (by omega) (by omega) (ih fun y hy => h y (List.mem_cons_of_mem _ hy)))
theorem hvs_wv {l : List Int} (h : Ld l) : wv (hvs l) = lv l := by
  induction l with
  | nil => rfl
  | cons x l ih =>
    have hx := h x (List.mem_cons_self ..)
    have := ih fun y hy => h y (List.mem_cons_of_mem _ hy)
    simp only [hvs, wv, lv, this]; omega
theorem take_snoc {l : List Int} {i : Nat} (h : i < l.length) : l.take (i + 1) = l.take i ++ [l.getD i 0] := by
  rw [List.take_add_one, List.getD_eq_getElem?_getD, List.getElem?_eq_getElem h]; rfl

theorem halves_t {l : List Int} (h : Ld l) (hl : l.length ≤ 1073741824) : T_girderref02_halves l = some (W (lv l)) := by
  have loop := iter_nat (b := T_girderref02_halves_b2 l) (fun i => (((i : Nat) : Int), hvs (l.take i))) (o := hvs l) l.length (by rw [FU_eq]; omega) (fun i hi => by
    have hx := h (l.getD i 0) (by rw [List.getD_eq_getElem?_getD, List.getElem?_eq_getElem hi]; exact List.getElem_mem _)
    unfold T_girderref02_halves_b2
    simp only [Option.bind_some]
    rw [cond_t (by simp; omega), at_getD 0 hi]
    simp only [Option.bind_some]
    rw [app_le (by rw [hvs_len]; simp; omega), Option.bind_some, take_snoc hi, hvs_append, wrU (by omega)]
    generalize l.getD i 0 = x at *
    have e1 : x.tmod 4294967296 = x % 4294967296 := Int.tmod_eq_emod_of_nonneg hx.1
    have e2 : IntKind.u64.wrap (x.tdiv 4294967296) = x / 4294967296 := by rw [Int.tdiv_eq_ediv_of_nonneg hx.1, w64]; omega
    rw [e1, e2]; rfl) (by
    unfold T_girderref02_halves_b2
    simp only [Option.bind_some]
    rw [cond_f (by simp), List.take_length])
  have loop : iter (T_girderref02_halves_b2 l) FU (0, []) = some (hvs l) := loop
  unfold T_girderref02_halves
  rw [loop, Option.bind_some, low_sub (hvs_wd h) (by rw [hvs_len]; omega), hvs_wv h]

def prs : List Int → List Int
  | x :: y :: r => (x + 4294967296 * y) :: prs r
  | [x] => [x]
  | [] => []
theorem prs_append : ∀ (j : Nat) {l m : List Int}, l.length = 2 * j → prs (l ++ m) = prs l ++ prs m
  | 0, l, m, h => by
    have : l = [] := List.eq_nil_of_length_eq_zero (by omega)
    subst this; rfl
  | j + 1, x :: y :: r, m, h => by
    simp only [List.cons_append, prs]
    rw [prs_append j (l := r) (by simp at h; omega)]
  | j + 1, [x], m, h => by simp at h; omega
  | j + 1, [], m, h => by simp at h
theorem prs_len : ∀ (l : List Int), (prs l).length ≤ l.length
  | x :: y :: r => by have := prs_len r; simp [prs]; omega
  | [x] => by simp [prs]
  | [] => by simp [prs]
theorem prs_ld : ∀ {l : List Int}, Wd l → Ld (prs l)
  | x :: y :: r, h => by
    have h1 := wd_head h
    have h2 := wd_head (wd_tail h)
    have := prs_ld (wd_tail (wd_tail h))
    intro z hz
    simp only [prs, List.mem_cons] at hz
    rcases hz with rfl | hz
    · omega
    · exact this z hz
  | [x], h => by
    have h1 := wd_head h
    intro z hz
    simp only [prs, List.mem_singleton] at hz
    subst hz; omega
  | [], _ => fun z hz => by cases hz
theorem prs_lv : ∀ {l : List Int}, Wd l → lv (prs l) = wv l
  | x :: y :: r, h => by
    have h1 := wd_head h
    have h2 := wd_head (wd_tail h)
    have := prs_lv (wd_tail (wd_tail h))
    simp only [prs, lv, wv, this]; omega
  | [x], h => by simp [prs, lv, wv]
  | [], _ => rfl

theorem limbsR_t {d : List Int} (h : Wd d) (hl : d.length ≤ 4294967296) : T_girderref02_limbs d = some (LW (wv d)) := by
  have loop := iter_nat (b := T_girderref02_limbs_b2 d) (fun j => (((2 * j : Nat) : Int), prs (d.take (2 * j)))) (o := prs d) ((d.length + 1) / 2) (by rw [FU_eq]; omega) (fun j hj => by
    have hx := wd_get h (2 * j)
    have hy := wd_get h (2 * j + 1)
    have hlen := prs_len (d.take (2 * j))
    rw [List.length_take] at hlen
    have h2j : (d.take (2 * j)).length = 2 * j := by rw [List.length_take]; omega
    have w1 : IntKind.i64.wrap (((2 * j : Nat) : Int) + 2) = ((2 * (j + 1) : Nat) : Int) := by rw [wrI (by omega) (by omega)]; omega
    unfold T_girderref02_limbs_b2
    simp only [Option.bind_some]
    rw [cond_t (by simp; omega), at_getD 0 (by omega), Option.bind_some, wrU (by omega), w1]
    by_cases hc : 2 * j + 1 < d.length
    · have e : d.take (2 * (j + 1)) = d.take (2 * j) ++ [d.getD (2 * j) 0, d.getD (2 * j + 1) 0] := by
        rw [show 2 * (j + 1) = 2 * j + 1 + 1 by omega, take_snoc hc, take_snoc (by omega), List.append_assoc]; rfl
      rw [cond_t (by simp; omega), at_getD 0 hc]
      simp only [Option.bind_some]
      rw [app_le (by simp; omega), Option.bind_some, e, prs_append j h2j]
      have ew : IntKind.u64.wrap (d.getD (2 * j) 0 + IntKind.u64.wrap (4294967296 * d.getD (2 * j + 1) 0)) = d.getD (2 * j) 0 + 4294967296 * d.getD (2 * j + 1) 0 := by
        rw [w64, w64]; omega
      rw [ew]; rfl
    · have e : d.take (2 * (j + 1)) = d.take (2 * j) ++ [d.getD (2 * j) 0] := by
        rw [← take_snoc (by omega), List.take_of_length_le (by omega), List.take_of_length_le (by omega)]
      rw [cond_f (by simp; omega)]
      simp only [Option.bind_some]
      rw [app_le (by simp; omega), Option.bind_some, e, prs_append j h2j]; rfl) (by
    unfold T_girderref02_limbs_b2
    simp only [Option.bind_some]
    rw [cond_f (by simp; omega), List.take_of_length_le (by omega)])
  have loop : iter (T_girderref02_limbs_b2 d) FU (0, []) = some (prs d) := loop
  have hlen := prs_len d
  unfold T_girderref02_limbs
  rw [loop, Option.bind_some, natTrim_t (prs_ld h) (by omega), prs_lv h]; rfl

/-! ### Over one digit -/

def qds (q : Nat) : List Int → List Int × Nat
  | [] => ([], 0)
  | x :: l => (((((qds q l).2 * 4294967296 + x.toNat) / q : Nat) : Int) :: (qds q l).1, ((qds q l).2 * 4294967296 + x.toNat) % q)
theorem qds_spec {q : Nat} (hq : 0 < q) : ∀ {l : List Int}, Wd l → wv (qds q l).1 = wv l / q ∧ (qds q l).2 = wv l % q ∧ Wd (qds q l).1 ∧ (qds q l).1.length = l.length
  | [], _ => ⟨by simp [qds, wv], by simp [qds, wv], wd_nil, rfl⟩
  | x :: l, h => by
    obtain ⟨h1, h2, h3, h4⟩ := qds_spec hq (wd_tail h)
    have hx := wd_head h
    have hr : wv l % q < q := Nat.mod_lt _ hq
    have hdm := Nat.div_add_mod (wv l) q
    have hd : ((wv l % q) * 4294967296 + x.toNat) / q < 4294967296 := by
      rw [Nat.div_lt_iff_lt_mul hq]
      have : (wv l % q + 1) * 4294967296 ≤ q * 4294967296 := Nat.mul_le_mul_right _ hr
      omega
    have e : wv (x :: l) = q * (4294967296 * (wv l / q)) + ((wv l % q) * 4294967296 + x.toNat) := by
      show x.toNat + 4294967296 * wv l = _
      conv => lhs; rw [← hdm]
      rw [Nat.mul_add, Nat.mul_left_comm]; omega
    refine ⟨?_, ?_, ?_, by simp [qds, h4]⟩
    · rw [e, Nat.mul_add_div hq]
      simp only [qds, wv, h1, h2, Int.toNat_natCast]; omega
    · rw [e, Nat.mul_add_mod]
      simp only [qds, h2]
    · simp only [qds, h2]
      generalize (wv l % q * 4294967296 + x.toNat) / q = y at hd
      exact wd_cons (by omega) (by omega) h3

theorem set_rep {k : Nat} (v : Int) (l : List Int) : (List.replicate (k + 1) (0 : Int) ++ l).set k v = List.replicate k 0 ++ v :: l := by
  rw [List.replicate_succ', List.append_assoc, List.set_append_right _ _ (by simp)]
  simp

theorem short_t {x : List Int} (h : Wd x) {q : Nat} (hq : 0 < q) (hq2 : q ≤ 4294967296) (hl : x.length ≤ 1099511627776) : T_girderref02_short x (q : Int) = some (W (wv x / q), ((wv x % q : Nat) : Int)) := by
  have hnz : nz (q : Int) = some () := by unfold nz; rw [if_pos (by omega)]
  have loop := iter_nat (b := T_girderref02_short_b2 x (q : Int)) (fun j => (((qds q (x.drop (x.length - j))).2 : Int), ((x.length - j : Nat) : Int) - 1, List.replicate (x.length - j) 0 ++ (qds q (x.drop (x.length - j))).1)) (o := (((qds q x).2 : Int), (qds q x).1)) x.length (by rw [FU_eq]; omega) (fun j hj => by
    obtain ⟨k, hk⟩ : ∃ k, x.length - j = k + 1 := ⟨x.length - j - 1, by omega⟩
    have hk' : x.length - (j + 1) = k := by omega
    have hkx : k < x.length := by omega
    have hxk := wd_get h k
    have ed : x.drop k = x.getD k 0 :: x.drop (k + 1) := by
      rw [List.drop_eq_getElem_cons hkx, List.getD_eq_getElem?_getD, List.getElem?_eq_getElem hkx]; rfl
    have hsp := qds_spec hq (wd_drop h (k + 1))
    have hr : (qds q (x.drop (k + 1))).2 < q := by rw [hsp.2.1]; exact Nat.mod_lt _ hq
    rw [hk, hk', ed]
    simp only [qds]
    generalize qds q (x.drop (k + 1)) = Q at *
    generalize hv : x.getD k 0 = v at *
    have es : IntKind.u64.wrap (IntKind.u64.wrap (((Q.2 : Nat) : Int) * 4294967296) + v) = ((Q.2 * 4294967296 + v.toNat : Nat) : Int) := by
      rw [w64, w64]; omega
    have e1 : ((k + 1 : Nat) : Int) - 1 = (k : Int) := by omega
    unfold T_girderref02_short_b2
    dsimp only
    rw [e1, cond_t (by simp), at_getD 0 hkx, Option.bind_some, hnz, Option.bind_some, at_getD 0 (by simp; omega), Option.bind_some, Option.bind_some, Option.bind_some, hv, es, Int.toNat_natCast, set_rep]
    have e2 : IntKind.u64.wrap (((Q.2 * 4294967296 + v.toNat : Nat) : Int).tdiv (q : Int)) = (((Q.2 * 4294967296 + v.toNat) / q : Nat) : Int) := by
      rw [Int.tdiv_eq_ediv_of_nonneg (by omega), ← Int.natCast_ediv, w64n]
      exact Nat.lt_of_le_of_lt (Nat.div_le_self _ _) (by omega)
    have e3 : ((Q.2 * 4294967296 + v.toNat : Nat) : Int).tmod (q : Int) = (((Q.2 * 4294967296 + v.toNat) % q : Nat) : Int) := by
      rw [Int.tmod_eq_emod_of_nonneg (by omega), ← Int.natCast_emod]
    rw [e2, e3, wrI (n := (k : Int) - 1) (by omega) (by omega)]) (by
    unfold T_girderref02_short_b2
    dsimp only
    rw [cond_f (by simp)]
    simp)
  have loop : iter (T_girderref02_short_b2 x (q : Int)) FU (0, ((x.length : Nat) : Int) - 1, List.replicate x.length 0) = some (((qds q x).2 : Int), (qds q x).1) := by
    rw [Nat.sub_zero, List.drop_length] at loop
    simpa [qds] using loop
  have hsp := qds_spec hq h
  unfold T_girderref02_short
  rw [Option.bind_some, mk_nat hl, Option.bind_some, Option.bind_some, wrI (by omega) (by omega), loop, Option.bind_some]
  dsimp only
  rw [low_sub hsp.2.2.1 (by rw [hsp.2.2.2]; exact hl), hsp.1, hsp.2.1]

/-! ### Over a power of two -/

theorem pow2_loop {b : Int × Int → Option ((Int × Int) ⊕ Int)} {r : Nat} (hr : r < 32) (hb : ∀ a i : Int, b (a, i) = cond (decide (i < (r : Int))) (some (.inl ((IntKind.u64.wrap (2 * a)), (IntKind.i64.wrap (i + 1))))) (some (.inr a))) : iter b FU (1, 0) = some ((2 ^ r : Nat) : Int) :=
  iter_nat (b := b) (fun i => (((2 ^ i : Nat) : Int), ((i : Nat) : Int))) r (by rw [FU_eq]; omega) (fun i hi => by
    have hp : 2 ^ (i + 1) ≤ 2 ^ 32 := Nat.pow_le_pow_right (by omega) (by omega)
    have e : (2 : Int) * ((2 ^ i : Nat) : Int) = ((2 ^ (i + 1) : Nat) : Int) := by rw [Nat.pow_succ]; omega
    have h32 : (2 : Nat) ^ 32 = 4294967296 := rfl
    rw [hb, cond_t (by simp; omega), e, w64n (by omega), wrU (by omega)]) (by rw [hb, cond_f (by simp)])

theorem q32 {n : Nat} (hn : n < 9223372036854775808) : (n : Int).tmod 32 = ((n % 32 : Nat) : Int) ∧ IntKind.i64.wrap ((n : Int).tdiv 32) = ((n / 32 : Nat) : Int) := by
  refine ⟨by rw [Int.tmod_eq_emod_of_nonneg (by omega)]; omega, ?_⟩
  rw [Int.tdiv_eq_ediv_of_nonneg (by omega), wrI (by omega) (by omega)]; omega

theorem wv_noughts {l : List Int} (h : ∀ j, j < l.length → l.getD j 0 = 0) : wv l = 0 := by
  induction l with
  | nil => rfl
  | cons x l ih =>
    have h0 := h 0 (by simp)
    have h0 : x = 0 := by simpa using h0
    have := ih fun j hj => by
      have := h (j + 1) (by simpa using hj)
      simpa using this
    unfold wv
    rw [this, h0]; rfl
theorem wv_snoc (l : List Int) {x : Int} (hx : 0 ≤ x) : wv (l ++ [x]) ≠ 0 ↔ wv l ≠ 0 ∨ x ≠ 0 := by
  rw [wv_append]
  have hp := pow_pos32 l.length
  have e : wv [x] = x.toNat := by simp [wv]
  rw [e]
  generalize 4294967296 ^ l.length = P at *
  constructor
  · intro h
    by_cases c : x = 0
    · subst c; left; simpa using h
    · exact .inr c
  · rintro (h | h)
    · omega
    · have : 0 < P * x.toNat := Nat.mul_pos hp (by omega)
      omega

theorem lost_loop {d : List Int} {n : Nat} (hd : Wd d) (hl : d.length ≤ 1099511627776) (hn : n < 9223372036854775808) : iter (T_girderref02_NatDown_b2 (n : Int) d) FU (false, 0) = some (decide (wv (d.take (n / 32)) ≠ 0)) := by
  obtain ⟨q1, q2⟩ := q32 hn
  have loop := iter_nat (b := T_girderref02_NatDown_b2 (n : Int) d) (fun i => (decide (wv (d.take i) ≠ 0), ((i : Nat) : Int))) (o := decide (wv (d.take (n / 32)) ≠ 0)) (min (n / 32) d.length) (by rw [FU_eq]; omega) (fun i hi => by
    have hid : i < d.length := by omega
    have hx := wd_get hd i
    unfold T_girderref02_NatDown_b2
    simp only [Option.bind_some]
    have e := wv_snoc (d.take i) hx.1
    rw [q2, cond_t (by simp; omega), cond_t (by simp; omega), wrU (by omega), take_snoc hid]
    by_cases c : wv (d.take i) = 0
    · have e' : wv (d.take i ++ [d.getD i 0]) ≠ 0 ↔ d.getD i 0 ≠ 0 := e.trans ⟨fun h => h.resolve_left fun k => k c, .inr⟩
      rw [cond_t (by simp [c]), at_getD 0 hid, Option.bind_some]
      have e2 : (d.getD i 0 != 0) = decide (wv (d.take i ++ [d.getD i 0]) ≠ 0) := by
        by_cases c2 : d.getD i 0 = 0
        · rw [decide_eq_false fun k => e'.1 k c2, c2]; rfl
        · rw [decide_eq_true (e'.2 c2)]; exact bne_iff_ne.2 c2
      rw [e2]
    · rw [cond_f (by simp [c]), decide_eq_true (e.2 (.inl c))]) (by
    unfold T_girderref02_NatDown_b2
    simp only [Option.bind_some]
    rw [q2]
    rcases Nat.lt_or_ge d.length (n / 32) with c | c
    · rw [Nat.min_eq_right (by omega), cond_t (by simp; omega), cond_f (by simp), List.take_length, List.take_of_length_le (by omega)]
    · rw [Nat.min_eq_left c, cond_f (by simp)])
  simpa [wv] using loop

theorem b32_pow (k : Nat) : (4294967296 : Nat) ^ k = 2 ^ (32 * k) := by rw [show (4294967296 : Nat) = 2 ^ 32 from rfl, ← Nat.pow_mul]

theorem natDown_t {l : List Int} {n : Nat} (h : Ld l) (hl : l.length ≤ 1073741824) (hn : n < 9223372036854775808) : T_girderref02_NatDown l (n : Int) = some (LW (lv l / 2 ^ n), decide (lv l % 2 ^ n ≠ 0)) := by
  obtain ⟨q1, q2⟩ := q32 hn
  have hlt := lv_lt h
  have hWl : (W (lv l)).length ≤ 2 * l.length := W_len_le (by rw [b32_pow]; refine Nat.lt_of_lt_of_le hlt (Nat.pow_le_pow_right (by omega) (by omega)))
  have hWd := W_wd (lv l)
  generalize hA : lv l = A at *
  unfold T_girderref02_NatDown
  rw [halves_t h hl, hA, Option.bind_some, lost_loop hWd (by omega) hn, Option.bind_some, Option.bind_some, q2]
  have hAl := W_len_lt A
  by_cases c : (W A).length ≤ n / 32
  · have hlt2 : A < 2 ^ n := by
      rw [b32_pow] at hAl
      exact Nat.lt_of_lt_of_le hAl (Nat.pow_le_pow_right (by omega) (by omega))
    rw [cond_t (by rw [decide_eq_true_eq]; omega), List.take_of_length_le c, wv_W, Nat.div_eq_of_lt hlt2, LW_zero, Nat.mod_eq_of_lt hlt2]
  · have hr : n % 32 < 32 := Nat.mod_lt _ (by omega)
    have hdl : wv ((W A).drop (n / 32)) = A / 4294967296 ^ (n / 32) ∧ wv ((W A).take (n / 32)) = A % 4294967296 ^ (n / 32) := by
      have h1 : wv ((W A).take (n / 32)) < 4294967296 ^ (n / 32) := by
        have := wv_lt (wd_take hWd (n / 32))
        rwa [List.length_take, Nat.min_eq_left (by omega)] at this
      have h2 : A = wv ((W A).take (n / 32)) + 4294967296 ^ (n / 32) * wv ((W A).drop (n / 32)) := by
        have := wv_append ((W A).take (n / 32)) ((W A).drop (n / 32))
        rw [List.take_append_drop, wv_W, List.length_take, Nat.min_eq_left (by omega)] at this
        exact this
      have hp := pow_pos32 (n / 32)
      generalize wv ((W A).take (n / 32)) = a at *
      generalize wv ((W A).drop (n / 32)) = b at *
      generalize 4294967296 ^ (n / 32) = P at *
      rw [h2, Nat.add_comm]
      exact ⟨by rw [Nat.mul_add_div hp, Nat.div_eq_of_lt h1]; omega, by rw [Nat.mul_add_mod, Nat.mod_eq_of_lt h1]⟩
    rw [cond_f (by rw [decide_eq_false_iff_not]; omega), pow2_loop (b := T_girderref02_NatDown_b4 (n : Int)) hr (fun a i => by unfold T_girderref02_NatDown_b4; rw [q1]), Option.bind_some, Option.bind_some, sub_nat (by omega) (by omega), Option.bind_some]
    rw [List.take_of_length_le (by simp), short_t (wd_drop hWd _) (Nat.two_pow_pos _) (by
      have := Nat.pow_le_pow_right (n := 2) (by omega) (show n % 32 ≤ 32 by omega)
      exact this) (by simp; omega), Option.bind_some]
    dsimp only
    have hm := W_len_mono (show wv ((W A).drop (n / 32)) / 2 ^ (n % 32) ≤ A from Nat.le_trans (Nat.div_le_self _ _) (by rw [hdl.1]; exact Nat.div_le_self _ _))
    rw [limbsR_t (W_wd _) (by omega), wv_W, Option.bind_some, hdl.1, hdl.2]
    have e : (2 : Nat) ^ n = 4294967296 ^ (n / 32) * 2 ^ (n % 32) := by
      rw [b32_pow, ← Nat.pow_add]; congr 1; omega
    rw [e, ← Nat.div_div_eq_div_mul, Nat.mod_mul]
    have hp := pow_pos32 (n / 32)
    generalize 4294967296 ^ (n / 32) = P at *
    generalize A % P = a
    generalize A / P % 2 ^ (n % 32) = b
    by_cases ca : a = 0
    · subst ca
      have : decide (0 + P * b ≠ 0) = (((b : Nat) : Int) != 0) := by
        by_cases cb : b = 0
        · subst cb; simp
        · have h1 : P * b ≠ 0 := Nat.mul_ne_zero (by omega) cb
          have h2 : ((b : Int) != 0) = true := by simpa using cb
          rw [h2, decide_eq_true]; omega
      rw [this]; rfl
    · rw [decide_eq_true ca, decide_eq_true (show a + P * b ≠ 0 by omega)]; rfl

/-! ### The right dyad -/

theorem LW_getD (n k : Nat) : (LW n).getD k 0 = ((n / 18446744073709551616 ^ k % 18446744073709551616 : Nat) : Int) := by
  induction k generalizing n with
  | zero =>
    by_cases h : n = 0
    · subst h; rw [LW_zero]; rfl
    · rw [LW_pos h]; simp
  | succ k ih =>
    by_cases h : n = 0
    · subst h; rw [LW_zero]; simp
    · rw [LW_pos h, List.getD_cons_succ, ih, Nat.div_div_eq_div_mul, Nat.pow_succ, Nat.mul_comm]
theorem b64_pow (k : Nat) : (18446744073709551616 : Nat) ^ k = 2 ^ (64 * k) := by rw [show (18446744073709551616 : Nat) = 2 ^ 64 from rfl, ← Nat.pow_mul]
theorem LW_bit (n i : Nat) : n / 18446744073709551616 ^ (i / 64) % 18446744073709551616 / 2 ^ (i % 64) % 2 = n / 2 ^ i % 2 := by
  have e : (2 : Nat) ^ i = 18446744073709551616 ^ (i / 64) * 2 ^ (i % 64) := by
    rw [b64_pow, ← Nat.pow_add]; congr 1; omega
  have e2 : (18446744073709551616 : Nat) = 2 ^ (i % 64) * (2 * 2 ^ (63 - i % 64)) := by
    rw [← Nat.mul_assoc, ← Nat.pow_succ, ← Nat.pow_add]
    have : (i % 64).succ + (63 - i % 64) = 64 := by omega
    rw [this]
  rw [e, ← Nat.div_div_eq_div_mul]
  generalize n / 18446744073709551616 ^ (i / 64) = m
  conv => lhs; rw [e2]
  rw [Nat.mod_mul_right_div_self, Nat.mod_mul_right_mod]

theorem LW_long {m : Nat} (k : Nat) : k < (LW m).length ↔ 64 * k < blN m := by
  constructor
  · intro h
    rcases Nat.lt_or_ge (64 * k) (blN m) with g | g
    · exact g
    · have := LW_len (blN_le.1 g); omega
  · intro h
    rcases Nat.lt_or_ge k (LW m).length with g | g
    · exact g
    · have := blN_le.2 (Nat.lt_of_lt_of_le (LW_lt m) (Nat.pow_le_pow_right (n := 2) (by omega) (show 64 * (LW m).length ≤ 64 * k by omega))); omega

end Go.Eng

/-
  The right dyad of any dyad, as the document makes it. No condition.
-/
set_option maxRecDepth 100000
set_option maxHeartbeats 400000
set_option exponentiation.threshold 70000
namespace Go.Eng
open Go

theorem tz_loop {n : Nat} (h0 : n ≠ 0) (hl : (LW n).length ≤ 1073741824) : iter (T_girderref02_Norm_b2 (LW n)) FU 0 = some ((tzN n : Nat) : Int) := by
  obtain ⟨t1, t2, t3⟩ := tzN_spec h0
  have hbl := tzN_lt h0
  have hb : blN n ≤ 64 * (LW n).length := blN_le.2 (LW_lt n)
  have step : ∀ i : Nat, i ≤ tzN n → T_girderref02_Norm_b2 (LW n) ((i : Nat) : Int) = cond (decide (n / 2 ^ i % 2 = 0)) (some (.inl ((i + 1 : Nat) : Int))) (some (.inr ((i : Nat) : Int))) := fun i hi => by
    unfold T_girderref02_Norm_b2
    dsimp only
    have e1 : IntKind.i64.wrap ((i : Int).tdiv 64) = ((i / 64 : Nat) : Int) := by
      rw [Int.tdiv_eq_ediv_of_nonneg (by omega), wrI (by omega) (by omega)]; omega
    have e2 : IntKind.u64.wrap ((i : Int).tmod 64) = ((i % 64 : Nat) : Int) := by
      rw [Int.tmod_eq_emod_of_nonneg (by omega), w64]; omega
    have e3 : min ((i % 64 : Nat) : Int).toNat IntKind.u64.bits = i % 64 := by
      rw [Int.toNat_natCast]; exact Nat.min_eq_left (show i % 64 ≤ 64 by omega)
    rw [e1, e2, at_getD 0 (by omega), Option.bind_some, nn_ok, Option.bind_some, e3, LW_getD, fdn]
    have e4 : (((n / 18446744073709551616 ^ (i / 64) % 18446744073709551616 / 2 ^ (i % 64) : Nat) : Int).tmod 2) = ((n / 2 ^ i % 2 : Nat) : Int) := by
      rw [← LW_bit]
      generalize n / 18446744073709551616 ^ (i / 64) % 18446744073709551616 / 2 ^ (i % 64) = y
      rw [Int.tmod_eq_emod_of_nonneg (by omega)]; omega
    rw [e4, wrU (by omega)]
    congr 1
    by_cases c : n / 2 ^ i % 2 = 0
    · rw [c]; rfl
    · rw [decide_eq_false c, beq_eq_false_iff_ne]; omega
  exact iter_nat (b := T_girderref02_Norm_b2 (LW n)) (fun i => ((i : Nat) : Int)) (tzN n) (by rw [FU_eq]; omega) (fun i hi => by
    rw [step i (by omega), decide_eq_true (t3 i hi), cT]) (by rw [step _ (by omega), decide_eq_false (by omega), cF])

theorem refNorm_t {s : Bool} {l : List Int} {e : Int} (h : Ld l) (hl : l.length ≤ 1073741824) : T_girderref02_Norm s l e = some (cano (zD s l) e) := by
  have hza := zD_abs s l
  have hLl := LW_len (lv_lt h)
  unfold T_girderref02_Norm
  rw [natTrim_t h (by omega), Option.bind_some, Option.bind_some]
  unfold cano
  by_cases h0 : lv l = 0
  · rw [h0, LW_zero, if_pos (by omega)]; rfl
  · have hlen : (LW (lv l)).length ≠ 0 := fun c => h0 (LW_nil.1 (List.eq_nil_of_length_eq_zero c))
    have hbl := tzN_lt h0
    have hb : blN (lv l) ≤ 64 * l.length := blN_le.2 (lv_lt h)
    have hs : decide (zD s l < 0) = s := by
      unfold zD sgN
      cases s <;> simp <;> omega
    rw [cond_f (by simpa using hlen), tz_loop h0 (by omega), Option.bind_some, natDown_t (LW_ld _) (by omega) (by omega), Option.bind_some, lv_LW, if_neg (show zD s l ≠ 0 by omega), hza, hs]
    dsimp only
    unfold canoO
    generalize tzN (lv l) = t at *
    generalize lv l / 2 ^ t = m at *
    rw [Option.bind_some, wrI (n := -65536 - (t : Int)) (by omega) (by omega)]
    have g : decide (((LW m).length : Int) > 256) = decide (16384 < blN m) := by
      have := LW_long (m := m) 256
      apply decide_eq_decide.2
      omega
    rw [g]
    by_cases c1 : 16384 < blN m
    · rw [if_pos (.inr (.inr c1)), decide_eq_true c1]; rfl
    · rw [decide_eq_false c1, Bool.not_false, cT]
      by_cases c2 : e > 65536
      · rw [if_pos (by omega), decide_eq_true c2]; rfl
      · rw [decide_eq_false c2, Bool.not_false, cT]
        by_cases c3 : e < -65536 - (t : Int)
        · rw [if_pos (by omega), decide_eq_true c3]; rfl
        · rw [decide_eq_false c3, Bool.not_false, cT, wrI (n := e + (t : Int)) (by omega) (by omega), Option.bind_some]
          by_cases c4 : e + (t : Int) > 65536
          · rw [if_pos (by omega), decide_eq_true c4]; rfl
          · rw [if_neg (by omega), decide_eq_false c4]; rfl

theorem refTold_t {s : Bool} {l : List Int} {e : Int} (h : Ld l) (hl : l.length ≤ 1073741824) : T_girderref02_Told s l e = some (cano (zD s l) e) := by
  unfold T_girderref02_Told
  rw [refNorm_t h hl]; rfl

end Go.Eng
