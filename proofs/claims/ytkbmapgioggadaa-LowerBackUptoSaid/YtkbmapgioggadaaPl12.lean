/-
  The package lower on the plain side: Times. No condition.
-/
import Derived.Test.YtkbmapgioggadaaPt
set_option linter.unusedVariables false
set_option linter.unusedSimpArgs false
set_option linter.unnecessarySimpa false
set_option linter.unusedSectionVars false
set_option maxRecDepth 100000
set_option maxHeartbeats 4000000
namespace Go.Eng
open Go

theorem triInt {n : Nat} (hn : n ≤ 4096) : IntKind.i64.wrap ((IntKind.i64.wrap ((n : Int) * (IntKind.i64.wrap ((n : Int) - 1)))).tdiv 2) = ((tri n : Nat) : Int) := by
  cases n with
  | zero => decide
  | succ n =>
    have e1 : IntKind.i64.wrap (((n + 1 : Nat) : Int) - 1) = ((n + 1 - 1 : Nat) : Int) := by rw [wrI (by omega) (by omega)]; omega
    have hb : (n + 1) * (n + 1 - 1) ≤ 4096 * 4096 := Nat.mul_le_mul (by omega) (by omega)
    have e2 : ((((n + 1) * (n + 1 - 1) : Nat) : Int)).tdiv 2 = ((tri (n + 1) : Nat) : Int) := rfl
    have ht : tri (n + 1) ≤ 4096 * 4096 := Nat.le_trans (Nat.div_le_self _ _) hb
    rw [e1, wrMul (by omega), e2, wrN (by omega)]
theorem tri_big {n : Nat} (hn : n ≤ 4096) : tri n ≤ 16777216 := Nat.le_trans (tri_mono hn) (by decide)

/-- Row i of the lower factor, with its 1. -/
def rowL (l : List Nat) (i : Nat) : List Nat := (l.drop (tri i)).take i
def low1 (l : List Nat) (i k : Nat) : Nat := if i = k then oneF else lowG l i k
theorem rowL_len {l : List Nat} {n i : Nat} (hl : l.length = tri n) (hi : i < n) : (rowL l i).length = i := by
  have := tri_mono (show i + 1 ≤ n by omega)
  rw [tri_succ] at this
  simp [rowL]; omega
theorem row1_at {l : List Nat} {n i k : Nat} (hl : l.length = tri n) (hi : i < n) (hk : k ≤ i) : (rowL l i ++ [oneF]).getD k 0 = low1 l i k := by
  unfold low1
  by_cases e : i = k
  · subst e
    rw [if_pos rfl, app_eq (rowL_len hl hi)]
  · rw [if_neg e, app_lt (by rw [rowL_len hl hi]; omega)]
    unfold rowL lowG
    simp [List.getD_eq_getElem?_getD, List.getElem?_take, show k < i by omega]
theorem row_t {l : List Nat} {n i : Nat} (hn : n ≤ 48) (hl : l.length = tri n) (hi : i < n) : T_lower_row l (i : Int) = some (((tri i : Nat) : Int), ((tri i + i : Nat) : Int)) := by
  have h1 := tri_mono (show i + 1 ≤ n by omega)
  rw [tri_succ] at h1
  have h2 := tri_le hn
  unfold T_lower_row
  rw [triInt (by omega), wrAdd (by omega), sub_nat (by omega) (by omega)]; rfl
theorem rowSub {l : List Nat} {n i : Nat} (hl : l.length = tri n) (hi : i < n) : subL l ((tri i : Nat) : Int) ((tri i + i : Nat) : Int) = some (rowL l i) := by
  have h1 := tri_mono (show i + 1 ≤ n by omega)
  rw [tri_succ] at h1
  rw [sub_nat (by omega) (by omega), Nat.add_sub_cancel_left]; rfl
theorem rat_t {l : List Nat} {n i k : Nat} (hn : n ≤ 48) (hl : l.length = tri n) (hi : i < n) (hk : k ≤ i) : T_girderref12_At l (i : Int) (k : Int) = some (low1 l i k) := by
  unfold T_girderref12_At low1
  by_cases e : i = k
  · subst e; rw [cond_t (by simp), if_pos rfl, nf_one]
  · rw [cond_f (by simpa using fun h : (i : Int) = k => e (by omega)), if_neg e, triIdx (by omega) (by omega), at_getD 0 (by rw [hl]; exact tri_lt (by omega) hi)]; rfl

def entN (l d : List Nat) (i j : Nat) : Nat → Nat
  | 0 => 0
  | k + 1 => fadd (entN l d i j k) (fmul (fmul (low1 l i k) (d.getD k 0)) (low1 l j k))
def putE (l d : List Nat) (n i j : Nat) (t : List Nat) : List Nat := (t.set (i * n + j) (entN l d i j (j + 1))).set (j * n + i) (entN l d i j (j + 1))
def rowE (l d : List Nat) (n i : Nat) (t : List Nat) : Nat → List Nat
  | 0 => t
  | j + 1 => putE l d n i j (rowE l d n i t j)
theorem rowE_len (l d : List Nat) (n i : Nat) (t : List Nat) : ∀ j, (rowE l d n i t j).length = t.length
  | 0 => rfl
  | j + 1 => by simp [rowE, putE, rowE_len l d n i t j]
def allE (l d : List Nat) (n : Nat) (t : List Nat) : Nat → List Nat
  | 0 => t
  | i + 1 => rowE l d n i (allE l d n t i) (i + 1)
theorem allE_len (l d : List Nat) (n : Nat) (t : List Nat) : ∀ i, (allE l d n t i).length = t.length
  | 0 => rfl
  | i + 1 => by simp [allE, rowE_len, allE_len l d n t i]

section
variable {l d : List Nat} {n : Nat} (hn : n ≤ 48) (hl : l.length = tri n) (hd : d.length = n)
include hn hl hd
theorem ent_t {i j : Nat} (hi : i < n) (hj : j ≤ i) : iter (T_lower_Times_b38 (j : Int) (rowL l i ++ [oneF]) d (rowL l j ++ [oneF])) FU (0, 0) = some (entN l d i j (j + 1)) := by
  have := iter_nat (b := T_lower_Times_b38 (j : Int) (rowL l i ++ [oneF]) d (rowL l j ++ [oneF])) (fun k => (entN l d i j k, ((k : Nat) : Int))) (o := entN l d i j (j + 1)) (j + 1) (by rw [FU_eq]; omega) (fun k hk => by
    unfold T_lower_Times_b38
    dsimp only
    rw [cond_t (by rw [wrU (by omega)]; simp; omega), at_getD 0 (by rw [List.length_append, rowL_len hl hi]; simp; omega), Option.bind_some, at_getD 0 (by omega), Option.bind_some, Option.bind_some, at_getD 0 (by rw [List.length_append, rowL_len hl (by omega)]; simp; omega)]
    simp only [Option.bind_some]
    rw [row1_at hl hi (by omega), row1_at hl (show j < n by omega) (by omega), wrU (by omega)]; rfl) (by
    unfold T_lower_Times_b38
    dsimp only
    rw [cond_f (by rw [wrU (by omega)]; simp)])
  exact this
theorem rent_t {i j : Nat} (hi : i < n) (hj : j ≤ i) : iter (T_girderref12_Times_b38 (j : Int) d l (i : Int)) FU (0, 0) = some (entN l d i j (j + 1)) := by
  have := iter_nat (b := T_girderref12_Times_b38 (j : Int) d l (i : Int)) (fun k => (entN l d i j k, ((k : Nat) : Int))) (o := entN l d i j (j + 1)) (j + 1) (by rw [FU_eq]; omega) (fun k hk => by
    unfold T_girderref12_Times_b38
    dsimp only
    rw [cond_t (by simp; omega), at_getD 0 (by omega), Option.bind_some, rat_t hn hl hi (by omega), Option.bind_some, Option.bind_some, rat_t hn hl (by omega) (by omega)]
    simp only [Option.bind_some]
    rw [wrU (by omega)]; rfl) (by
    unfold T_girderref12_Times_b38
    dsimp only
    rw [cond_f (by simp; omega)])
  exact this

theorem rowE_t {i : Nat} {t : List Nat} (hi : i < n) (ht : t.length = n * n) : iter (T_lower_Times_b36 (i : Int) l (rowL l i ++ [oneF]) d (n : Int)) FU (0, t) = some (rowE l d n i t (i + 1)) := by
  have hnn : n * n ≤ 2304 := Nat.le_trans (Nat.mul_le_mul hn hn) (by omega)
  have := iter_nat (b := T_lower_Times_b36 (i : Int) l (rowL l i ++ [oneF]) d (n : Int)) (fun j => (((j : Nat) : Int), rowE l d n i t j)) (o := rowE l d n i t (i + 1)) (i + 1) (by rw [FU_eq]; omega) (fun j hj => by
    have hjn : j < n := by omega
    have x1 := idxL hi hjn
    have x2 := idxL hjn hi
    unfold T_lower_Times_b36
    dsimp only
    rw [cond_t (by rw [wrU (by omega)]; simp; omega), row_t hn hl hjn, Option.bind_some]
    dsimp only
    rw [rowSub hl hjn, Option.bind_some, Option.bind_some, nf_one, app_le (by rw [rowL_len hl hjn]; simp; omega), Option.bind_some, nf_zero, ent_t hn hl hd hi (by omega), Option.bind_some, wrIdx hi hjn (by omega), at_getD 0 (by rw [rowE_len, ht]; exact x1)]
    simp only [Option.bind_some, Int.toNat_natCast]
    rw [wrIdx hjn hi (by omega), at_getD 0 (by rw [List.length_set, rowE_len, ht]; exact x2)]
    simp only [Option.bind_some, Int.toNat_natCast]
    rw [wrU (by omega)]; rfl) (by
    unfold T_lower_Times_b36
    dsimp only
    rw [cond_f (by rw [wrU (by omega)]; simp)])
  exact this
theorem rrowE_t {i : Nat} {t : List Nat} (hi : i < n) (ht : t.length = n * n) : iter (T_girderref12_Times_b36 (i : Int) d l (n : Int)) FU (0, t) = some (rowE l d n i t (i + 1)) := by
  have hnn : n * n ≤ 2304 := Nat.le_trans (Nat.mul_le_mul hn hn) (by omega)
  have := iter_nat (b := T_girderref12_Times_b36 (i : Int) d l (n : Int)) (fun j => (((j : Nat) : Int), rowE l d n i t j)) (o := rowE l d n i t (i + 1)) (i + 1) (by rw [FU_eq]; omega) (fun j hj => by
    have hjn : j < n := by omega
    have x1 := idxL hi hjn
    have x2 := idxL hjn hi
    unfold T_girderref12_Times_b36
    dsimp only
    rw [cond_t (by simp; omega), nf_zero, rent_t hn hl hd hi (by omega), Option.bind_some, wrIdx hi hjn (by omega), at_getD 0 (by rw [rowE_len, ht]; exact x1)]
    simp only [Option.bind_some, Int.toNat_natCast]
    rw [wrIdx hjn hi (by omega), at_getD 0 (by rw [List.length_set, rowE_len, ht]; exact x2)]
    simp only [Option.bind_some, Int.toNat_natCast]
    rw [wrU (by omega)]; rfl) (by
    unfold T_girderref12_Times_b36
    dsimp only
    rw [cond_f (by simp; omega)])
  exact this
theorem allE_t {t : List Nat} (ht : t.length = n * n) : iter (T_lower_Times_b27 (n : Int) l d) FU (0, t) = some (allE l d n t n) := by
  have := iter_nat (b := T_lower_Times_b27 (n : Int) l d) (fun i => (((i : Nat) : Int), allE l d n t i)) (o := allE l d n t n) n (by rw [FU_eq]; omega) (fun i hi => by
    unfold T_lower_Times_b27
    dsimp only
    rw [cond_t (by simp; omega), row_t hn hl hi, Option.bind_some]
    dsimp only
    rw [rowSub hl hi, Option.bind_some, Option.bind_some, nf_one, app_le (by rw [rowL_len hl hi]; simp; omega), Option.bind_some, rowE_t hn hl hd hi (by rw [allE_len, ht]), Option.bind_some, wrU (by omega)]; rfl) (by
    unfold T_lower_Times_b27
    dsimp only
    rw [cond_f (by simp)])
  exact this
theorem rallE_t {t : List Nat} (ht : t.length = n * n) : iter (T_girderref12_Times_b27 (n : Int) d l) FU (0, t) = some (allE l d n t n) := by
  have := iter_nat (b := T_girderref12_Times_b27 (n : Int) d l) (fun i => (((i : Nat) : Int), allE l d n t i)) (o := allE l d n t n) n (by rw [FU_eq]; omega) (fun i hi => by
    unfold T_girderref12_Times_b27
    dsimp only
    rw [cond_t (by simp; omega), rrowE_t hn hl hd hi (by rw [allE_len, ht]), Option.bind_some, wrU (by omega)]; rfl) (by
    unfold T_girderref12_Times_b27
    dsimp only
    rw [cond_f (by simp)])
  exact this
end

theorem rright12 (q : Int) (l d : List Nat) : T_girderref12_Right q l d = T_lower_Right q l d := rfl

theorem times_same (q : Int) (l d : List Nat) : ∃ x, x.length ≤ 2304 ∧ ∃ r c e, T_lower_Times q l d = some (r, c, x, e) ∧ T_girderref12_Times q l d = some (r, c, x, e) := by
  rcases right_cases q l d with ⟨hR, n, hq, hn, hl, hd⟩ | hR
  · have hnn : n * n ≤ 2304 := Nat.le_trans (Nat.mul_le_mul hn hn) (by omega)
    refine ⟨allE l d n (List.replicate (n * n) 0) n, by rw [allE_len]; simpa using hnn, q, q, 0, ?_, ?_⟩
    · unfold T_lower_Times
      rw [hR, Option.bind_some, cond_f (by rfl), make_t]
      subst hq
      have e : ((n : Int) * (n : Int)).toNat = n * n := by
        have : ((n * n : Nat) : Int) = (n : Int) * n := by simp
        omega
      rw [mayB_mk hn hn, e]
      simp only [if_true, Option.bind_some]
      rw [allE_t hn hl hd (by simp)]; rfl
    · unfold T_girderref12_Times
      rw [rright12, hR, Option.bind_some, cond_f (by rfl)]
      subst hq
      rw [wrMul (by omega), mk_nat (by omega), Option.bind_some, Option.bind_some, nf_zero, rallE_t hn hl hd (by simp)]; rfl
  · refine ⟨[], by simp, 0, 0, 4, ?_, ?_⟩
    · unfold T_lower_Times; rw [hR]; rfl
    · unfold T_girderref12_Times; rw [rright12, hR]; rfl

end Go.Eng
